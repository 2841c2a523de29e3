import Derived.Test.YtfbomiejpbchdaaGreatDoorTie
import Derived.Test.YtfbomiejpbchdaaGreatDoorCards
import Derived.ProofKit
import Derived.LaidMore
import Derived.Carry
import Derived.Stop.Joined
import Derived.SevenTiedAt
import Derived.Test.YtfbomiejpbchdaaGreatDoorPart06
import Derived.Test.YtfbomiejpbchdaaGreatDoorPart21
import Derived.Test.YtfbomiejpbchdaaGreatDoorPart26
import Derived.Test.YtfbomiejpbchdaaGreatDoorPart31
import Derived.Test.YtfbomiejpbchdaaGreatDoorPart35
import Derived.Test.YtfbomiejpbchdaaGreatDoorPart37
import Derived.Test.YtfbomiejpbchdaaGreatDoorPart38
namespace Go.Proofs.YtfbomiejpbchdaaGreatDoor
open Go Go.RowKit Go.Proofs.Tryz
set_option linter.unusedVariables false
set_option linter.unusedSimpArgs false
section
set_option maxRecDepth 100000
theorem Ia:∀(l:List T3) (i:Nat),(rowsL Am l).drop (i*3)=rowsL Am (l.drop i)
 | [],i=>by simp [rowsL]
 | x::r,0=>by rw [Nat.zero_mul,List.drop_zero,List.drop_zero]
 | x::r,i+1=>by
  rw [Nat.succ_mul]
  exact Ia r i
theorem IL:∀(l:List T3) (i:Nat),rowsL Am (l.take i)=(rowsL Am l).take (i*3)
 | [],i=>by simp [rowsL]
 | x::r,0=>by rw [Nat.zero_mul,List.take_zero,List.take_zero];rfl
 | x::r,i+1=>by
  rw [Nat.succ_mul,List.take_succ_cons]
  show Am x++rowsL Am (r.take i)=vN x.1::vN x.2.1::vN x.2.2::(rowsL Am r).take (i*3)
  rw [IL r i];rfl
theorem WU {w0:BK} {L:List As} {q:Option Addr} {l:List T3} {k n' i c:Nat} (hi:L[k]?=some (Ah q (rowsL Am l))) (hok:BL q n' c) (hl:i<=n'):WG w0 L (Wq q i c 3) (n'-i) (rowsL Am (l.drop i)):=by
 have h:=XP (w0:=w0) (z:=3) hi hok hl
 rw [Ia] at h
 exact h
theorem Vt {w0:BK} {L:List As} {q:Option Addr} {l:List T3} {k n c m:Nat} (hi:L[k]?=some (Ah q (rowsL Am l))) (hok:BL q n c) (hm:m<=n):WG w0 L q m (rowsL Am (l.take m)):=λw hw hm0=>by
 obtain ⟨a,ha,h⟩:=VH hi hok w hw Z
 refine ⟨a,ha,λj u hu=>h j u ?_⟩
 rw [IL,List.getElem?_take] at hu
 split at hu
 ·exact hu
 ·cases hu
theorem Ta {α:Type} (l:List α) (k:Nat):l.Perm (l.drop k++l.take k):=by
 have h:(l.take k++l.drop k).Perm (l.drop k++l.take k):=List.perm_append_comm
 rwa [List.take_append_drop] at h
theorem JM (x0 x1 x2:Nat):Instr.fill (λi=>some (i*1,1)) (Am ((0,0,0):Nat×Nat×Nat)).toArray [(0,vN x0),(1,vN x1),(2,vN x2)]=some (Am (x0,x1,x2)).toArray:=by kernel_rfl
set_option maxHeartbeats 1000000 in
theorem KC (m:MQ) (nn first:Nat) (hnn8:nn<256) (hft:first<256) (w:World) {S:Nat->Prop} (hm:Ro S w m):Calls prog 6 #[(aG (EE m)),(vK .u8 nn),(vK .u8 first)] w (Ak w (Value.bool true)):=by
 have lm:=Ep (W:=w) hm
 refine BF (args:=[(aG (EE m)),(vK .u8 nn),(vK .u8 first)]) (L:=[Ah m.p (Cl m.cs)]) func6 O O (Ad O) (En hm BQ) (AF.subF (sL [0,1,2] O) (q4 (Bk (cs:=EE m) O λb1=>AJ O (q3 (sL [1,2,3,6] O) ?_))))
 refine BE 0 L2 O (AE.callR (S:=S) (α:=MG) (args:=[(aG (EE m))]) call15 (λw hw=>S5 m w (D_ hw 1 O lm)) O O O λg lg=>?_)
 have hG:=g.good
 have hnb:Bn g.ps.length g.ts=true:=QL hG
 have htl:=hG.tl
 have hpl:=hG.pl
 have hz:∀i,CG (cor g.ps i)<=1000:=λi=>Nat.le_trans (hG.sz i) (by decide)
 have hsl:=g.sl
 have hne0:0<g.ts.length:=List.length_pos_iff.2 hG.ne
 have hcap:=g.mx.b.ok.le
 obtain ⟨kk,hkk⟩:∃q,q=nn%g.ts.length:=⟨_,rfl⟩
 have hkl:kk<g.ts.length:=by rw [hkk];exact Nat.mod_lt _ hne0
 obtain ⟨ds,hds⟩:∃q,q=g.ts.drop kk++g.ts.take kk:=⟨_,rfl⟩
 have hdp:g.ts.Perm ds:=by rw [hds];exact Ta _ _
 have hdl:ds.length=g.ts.length:=hdp.length_eq.symm
 have hckd:Ft g.ps ds g.ss:=Sx hdp (R9 hG hnb g.sd Z)
 refine al Oc O λb2=>Aq O sizeOf30 O (q6 (sL [1,2,6,7] O) (q4 (AH (v:=(pP b2 1)) (AA O underlying30 O sizeOf23 O) O (BN 0 (Value.slice g.mx.b.p g.ts.length g.mx.b.c) C_ O ?_))))
 refine AH (v:=(vN g.ts.length)) (AG O underlying23) O (AH (BZ (c:=false) O O (decide_eq_false Z)) O (AE.nil (AD.subF (sL [1,2,6,7,21] O) (AD.then_ (AF.cond_false O ?_)))))
 refine AF.skip (q2 (AP O (AH (Ap (c:=((nn:Nat):Int)) O underlying5 underlying3 (Bv Z)) O (AH (v:=(pP b2 1)) (AA O underlying30 O sizeOf23 O) O (BN 0 (Value.slice g.mx.b.p g.ts.length g.mx.b.c) C_ O ?_)))))
 refine AH (v:=(vN g.ts.length)) (AG O underlying23) O (AH (Bo (c:=((nn%g.ts.length:Nat):Int)) O O Z (GF (a:=nn) (b:=g.ts.length))) O (AE.retell (k:=27) (u:=(vN kk)) O (by rw [hkk]) (AJ O (q3 (sL [2,6,7,8] O) (BE 0 Dd O ?_)))))
 refine AE.callL (S:=S) (V:=λa:Wv g.ps g.ts g.ss=>aG (YF a)) (LW:=YL) (args:=[(aG (Cm g.mx))]) call28 (λw hw=>Uy g.mx Z Z Z w (D_ hw 1 O lg:Ro _ w g.mx)) O λcp hcp=>al Oc O λb3=>Aq O sizeOf30 O (q6 (sL [2,6,7,8,9] O) (DA [(0,true),(1,true),(2,true),(3,true),(5,true),(6,true),(7,true),(8,true),(4,false),(9,false),(10,true),(11,false)] (sl sr) (Aw (v:=(pP b2 1)) O (AA O underlying30 O sizeOf23 O) ?_)))
 refine Bi 3 (Value.slice g.mx.b.p g.ts.length g.mx.b.c) C_ O (Bp O (Aw (v:=(Value.slice (Wq g.mx.b.p kk g.mx.b.c 3) (g.ts.length-kk) (g.mx.b.c-kk))) O (NO (i:=kk) O O underlying23 sizeOf79 Z g.mx.b.ok.le) (Aw (v:=(pP b2 1)) O (AA O underlying30 O sizeOf23 O) (Bi 3 (Value.slice g.mx.b.p g.ts.length g.mx.b.c) C_ O (Bp O ?_)))))
 refine Aw (v:=(Value.slice g.mx.b.p kk g.mx.b.c)) O (GA (m:=kk) O O underlying23 sizeOf79 Z) (AS.imp O (AE.nilRow 79 3 (AE.appendS0 (cs2:=rowsL Am (g.ts.drop kk)) (news:=rowsL Am (g.ts.drop kk)) SB O OwnOk.none O O (WU (k:=7) O g.mx.b.ok Z) (by rw [Ag BC,List.length_drop]) (EM Iw _) (JH Z) Z O O λpt0 ct0 ht0=>AS.back (sl (sl sr)) (AS.imp O ?_))))
 refine AE.appendS0 (cs2:=rowsL Am ds) (news:=rowsL Am (g.ts.take kk)) SB O ht0 (by rw [Ag BC,List.length_drop];omega) O (Vt (k:=7) O g.mx.b.ok Z) (by rw [Ag BC,List.length_take];omega) (EM Iw _) (JH Z) Z (by rw [hds,BT]) O λpt1 ct1 ht1=>AS.back (sl (sl sr)) (Aw (v:=(pP b3 1)) O (AA O underlying30 O sizeOf23 O) (AS.imp O (GP 1 (off:=1) (vs:=[(Value.slice pt1 (0+(g.ts.length-kk)+kk) ct1)]) (cs':=[(Value.slice cp.a.p g.ps.length g.ps.length),(Value.slice pt1 (0+(g.ts.length-kk)+kk) ct1),(Value.slice cp.c.p g.ss.length g.ss.length)]) (AQ O) O sizeOf23 O (AS.back (sl (sl sr)) ?_))))
 refine AS.nil (AD.subF (sL [2,6,7,9] O) (q1 (q4 (AJ O (AE.nil ?_)))))
 refine AD.then_ (AF.block ?_)
 refine AF.lp1 (tg λ(t:Nat)=>t<=g.ts.length) (tg λ(t:Nat)=>[(2,(vK .u8 first)),(6,(Value.bool false)),(7,(pP b2 0)),(9,(pP b3 0)),(10,(vN t))]) (tg λ(t:Nat)=>[rowW pt1 79 3 (0+(g.ts.length-kk)+kk) ct1 (rowsL Am (Dx ds (MD first) t)),Ae b3 30 ([(Value.slice cp.a.p g.ps.length g.ps.length),(Value.slice pt1 (0+(g.ts.length-kk)+kk) ct1),(Value.slice cp.c.p g.ss.length g.ss.length)]),rowW cp.c.p 43 3 g.ss.length cp.c.c (rowsL Am g.ss),rowW cp.b.p 79 3 g.ts.length cp.b.c (rowsL Am g.ts),rowW cp.a.p 63 10 g.ps.length cp.a.c (rowsL Aj g.ps),Ae b2 30 (Cm g.mx),Ah g.mx.a.p (rowsL Aj g.ps),Ah g.mx.b.p (rowsL Am g.ts),Ah g.mx.c.p (rowsL Am g.ss),Ae b1 50 (EE m),Ah m.p (Cl m.cs)]) (tg λ(t:Nat)=>g.ts.length-t) 0 (Nat.zero_le _) (sF O) sr (λt hJ=>?_)
 have ht:=hJ
 refine AF.seq (q4 (AP O (AH (v:=(pP b3 1)) (AA O underlying30 O sizeOf23 O) O (BN 1 (Value.slice pt1 (0+(g.ts.length-kk)+kk) ct1) C_ O (AH (v:=(vN (0+(g.ts.length-kk)+kk))) (AG O underlying23) O ?_)))))
 refine AH (Af (c:=(decide (t<(0+(g.ts.length-kk)+kk)))) O O (DB (a:=t) (b:=0+(g.ts.length-kk)+kk))) O (AE.nil (AD.subF (sL [2,6,7,9,10,45] O) (AD.then_ ?_)))
 refine AF.cond O (λhc1=>?_) (λhc1=>?_)
 ·replace hc1:=of_decide_eq_true hc1
  have hrl:=DE (ts:=ds) (MD first) t
  obtain ⟨T,hT⟩:∃q,q=(Dx ds (MD first) t).getD t (0,0,0):=⟨_,rfl⟩
  obtain ⟨i,hi⟩:∃q,q=(first+t)%3:=⟨_,rfl⟩
  refine AF.skip (q1 (AF.block (q4 (AH (v:=(pP b3 1)) (AA O underlying30 O sizeOf23 O) O (BN 1 (Value.slice pt1 (0+(g.ts.length-kk)+kk) ct1) C_ O ?_)))))
  refine AP O (AH (v:=(pP (pB pt1) (pO pt1+t*3))) (AR (j:=t) O O ht1.row underlying23 sizeOf79 O Z) O (AH (v:=(aG (Am ((Dx ds (MD first) t).getD t ((0,0,0):Nat×Nat×Nat))))) (CI (vs:=Am ((Dx ds (MD first) t).getD t ((0,0,0):Nat×Nat×Nat))) (i:=0) O O ht1 (by rw [Ag BC,DE];omega) (BL.ne ht1.row Z) Ie (Ar BC _ _ _ Z) (BC _)) O (AE.retell (k:=52) (u:=(aG (Am T))) O (by rw [hT]) (al Lp O λb4=>Aq O sizeOf79 O ?_))))
  refine q3 (sL [2,6,7,9,10,11] O) (AP O (AH (Ap (c:=((first:Nat):Int)) O underlying5 underlying3 (Bv Z)) O (AP O (AH (AX (c:=((first+t:Nat):Int)) O O (AZ (a:=first) (b:=t) Z)) O (AH (Bo (c:=(((first+t)%3:Nat):Int)) O O Z (GF (a:=first+t) (b:=3))) O ?_)))))
  refine AE.retell (k:=57) (u:=(vN i)) O (by rw [hi]) (AJ O (AE.nil (AD.subF (sL [2,6,7,9,10,11,12] O) (AD.then_ (DA [(0,true),(1,true),(2,true),(3,true),(4,true),(5,true),(6,true),(7,true),(8,true),(9,true),(10,true),(11,true),(12,true),(13,true),(14,true),(15,true),(16,true),(17,true),(18,false)] (sk (sl sr)) ?_)))))
  refine Aw (v:=(pP b3 1)) O (AA O underlying30 O sizeOf23 O) (Bi 1 (Value.slice pt1 (0+(g.ts.length-kk)+kk) ct1) C_ O (Bp O (Bp O (Aw (v:=(pP b4 (0+i*1))) O (AC (j:=i) O O underlying79 sizeOf3 O Z O) (Aw O (AM (i:=0) (v:=(vN (Cd T i))) O O isAgg3 (N4 Z)) ?_)))))
  refine Bp O (Aw O (AX (c:=((i+1:Nat):Int)) O O (AZ (a:=i) (b:=1) Z)) (Aw O (Bo (c:=(((i+1)%3:Nat):Int)) O O Z (GF (a:=i+1) (b:=3))) (Aw (v:=(pP b4 (0+((i+1)%3)*1))) O (AC (j:=(i+1)%3) O O underlying79 sizeOf3 O Z O) (Aw O (AM (i:=0) (v:=(vN (Cd T ((i+1)%3)))) O O isAgg3 (N4 Z)) (Bp O ?_)))))
  refine Aw O (AX (c:=((i+2:Nat):Int)) O O (AZ (a:=i) (b:=2) Z)) (Aw O (Bo (c:=(((i+2)%3:Nat):Int)) O O Z (GF (a:=i+2) (b:=3))) (Aw (v:=(pP b4 (0+((i+2)%3)*1))) O (AC (j:=(i+2)%3) O O underlying79 sizeOf3 O Z O) (Aw O (AM (i:=0) (v:=(vN (Cd T ((i+2)%3)))) O O isAgg3 (N4 Z)) (Aw (v:=(aG (Am (Cd T i,Cd T ((i+1)%3),Cd T ((i+2)%3))))) O (Ao (zs:=Am ((0,0,0):Nat×Nat×Nat)) (vs:=Am (Cd T i,Cd T ((i+1)%3),Cd T ((i+2)%3))) (pv:=[(0,(vN (Cd T i))),(1,(vN (Cd T ((i+1)%3)))),(2,(vN (Cd T ((i+2)%3))))]) zeroValue79 underlying79 sizeOf3 O (JM (Cd T i) (Cd T ((i+1)%3)) (Cd T ((i+2)%3)))) (Aw (v:=(pP (pB pt1) (pO pt1+t*3))) O (AR (j:=t) O O ht1.row underlying23 sizeOf79 O Z) ?_)))))
  refine AS.imp O (AE.storeObj 1 (enc:=Am) (j:=t) (r:=0) (x':=(Cd T i,Cd T ((i+1)%3),Cd T ((i+2)%3))) (vs:=Am (Cd T i,Cd T ((i+1)%3),Cd T ((i+2)%3))) ((0,0,0):Nat×Nat×Nat) BC ht1 (by first|rfl|omega|simp [*]) O O O (BL.ne ht1.row Z) Z O sizeOf79 O O (AS.back (sk (sl sr)) (AS.nil (AD.subF (sL [2,6,7,9,10,11] O) (AD.in_normal ?_)))))
  refine AD.then_ (AF.region (AP O (AH (AX (c:=((t+1:Nat):Int)) O O (AZ (a:=t) (b:=1) Z)) O (AJ O (AE.nil ?_)))))
  refine AD.subF (sL [2,6,7,9,10,11] O) ?_
  rw [show (Dx ds (MD first) t).set t (Cd T i,Cd T ((i+1)%3),Cd T ((i+2)%3))=Dx ds (MD first) (t+1) from by exact QP Z hT (by rw [hi];rfl) Z]
  exact AD.round1 (t+1) Z Z (sF O) (sl sr)
 ·replace hc1:=of_decide_eq_false hc1
  have hte:t=ds.length:=by omega
  obtain ⟨us,hus⟩:∃q,q=Dx ds (MD first) ds.length:=⟨_,rfl⟩
  rw [show Dx ds (MD first) t=us by rw [hus,hte]]
  have hul:us.length=g.ts.length:=by rw [hus,DE];exact hdl
  rw [show 0+(g.ts.length-kk)+kk=us.length by omega] at ht1 ⊢
  have hcku:Ft g.ps us g.ss:=by rw [hus];exact Tv _ hckd
  have hue:edL us=edL ds:=by rw [hus];exact TM _ hckd.num Z
  have hun:(edL us).length=(edL g.ts).length:=by rw [hue];exact ME hdp hnb Z
  have har:Dh g.ps us us.length=Dh g.ps g.ts g.ts.length:=by rw [hus,DE,Mm _ _ (Nat.le_refl _)];exact QF hdp
  have hel0:(edL g.ts).length<=3*g.ts.length:=Vg g.ts
  refine AF.exit (AD.then_exit (AD.round1_exit (AD.in_exit (q2 (BE 5 Dd O ?_)))))
  refine cX (S:=S) (cs:=rowsL B8 (edL g.ts)) (k:=(edL g.ts).length) (args:=[(aG (Cm g.mx))]) call16 (λw hw=>JJ g.mx Z Z hnb w (D_ hw 6 O lg:Ro _ w g.mx)) O O O λea lea=>AE.frzRow 5 O cp.a.ok (Ag BJ _) O O λhn_cp_a=>AE.frzRow 1 O ht1 (Ag BC _) O O λhn_TB=>AE.frzRow 3 O cp.c.ok (Ag BC _) O O λhn_cp_c=>AJ O (q3 (sL [2,6,7,9,10,13] O) ?_)
  refine BE 2 Dd O (cX (S:=S) (cs:=rowsL B8 (edL us)) (k:=(edL us).length) (args:=[(aG ([(Value.slice cp.a.p g.ps.length g.ps.length),(Value.slice pt1 us.length ct1),(Value.slice cp.c.p g.ss.length g.ss.length)]))]) call16 (λw hw=>JJ (⟨⟨cp.a.p,g.ps.length,cp.a.ok.clip⟩,⟨pt1,ct1,ht1.row⟩,⟨cp.c.p,g.ss.length,cp.c.ok.clip⟩⟩:MX g.ps us g.ss) Z Z hcku.num w (V9 (S:=S) hw [5,1,3] O (At.mx (At.new hn_cp_a) (At.new hn_TB) (At.new hn_cp_c)))) O O O λeb leb=>AJ O (q6 (sL [2,6,7,9,10,13,14] O) (AF.seq (DA [(0,true),(1,false),(2,true),(3,true),(4,true),(6,true),(5,false),(7,false),(8,true),(9,true),(10,true),(11,true),(12,true),(13,true),(14,true),(15,true),(16,true)] sr ?_))))
  refine E7 3 Dd O (AS.imp O (Ef call29 (λw hw=>M2 (⟨⟨cp.a.p,g.ps.length,cp.a.ok.clip⟩,⟨pt1,ct1,ht1.row⟩,⟨cp.c.p,g.ss.length,cp.c.ok.clip⟩⟩:MX g.ps us g.ss) hcku w (V9 (S:=S) hw [6,2,4] O (At.mx (At.new hn_cp_a) (At.new hn_TB) (At.new hn_cp_c)))) O (AS.back sr (Aw O (CP (c:=false) O O (decide_eq_false Z)) (Bp O ?_)))))
  refine AS.pas (v:=(aG ([(Value.slice cp.a.p g.ps.length g.ps.length),(Value.slice pt1 us.length ct1),(Value.slice cp.c.p g.ss.length g.ss.length)]))) O (AB O) (A6 (i:=3) (vs:=[(Value.slice cp.a.p g.ps.length g.ps.length),(Value.slice pt1 us.length ct1),(Value.slice cp.c.p g.ss.length g.ss.length)]) O O Dd.a Dd.s O O) O O (AS.pas (v:=(aG (Cm g.mx))) O (AB O) (A6 (i:=7) (vs:=Cm g.mx) O O Dd.a Dd.s O O) O O (AS.imp O (AE.call (v:=(aG (AK (Dh g.ps us us.length)))) (AB O) (Ax (args:=[(aG ([(Value.slice cp.a.p g.ps.length g.ps.length),(Value.slice pt1 us.length ct1),(Value.slice cp.c.p g.ss.length g.ss.length)]))]) O O call19) (λw hw=>Jh (⟨⟨cp.a.p,g.ps.length,cp.a.ok.clip⟩,⟨pt1,ct1,ht1.row⟩,⟨cp.c.p,g.ss.length,cp.c.ok.clip⟩⟩:MX g.ps us g.ss) Z hz hcku.num w (V9 (S:=S) hw [6,2,4] O (At.mx (At.new hn_cp_a) (At.new hn_TB) (At.new hn_cp_c)))) O (Ad O) (AS.back sr (AS.imp O ?_)))))
  refine AE.call (v:=(aG (AK (Dh g.ps g.ts g.ts.length)))) (AB O) (Ax (args:=[(aG (Cm g.mx))]) O O call19) (λw hw=>Jh g.mx Z hz hnb w (D_ hw 8 O lg:Ro _ w g.mx)) O (Ad O) (AS.back sr (AS.pas (v:=(Value.bool false)) O (AB O) (Lj O O eqGuardType61 (OB 9995 har)) O O (Aw (v:=(Value.bool false)) O (AW O O) (Bp O (AS.pas (v:=(Value.slice ea.p ((edL g.ts).length) ea.c)) O (AB O) (BA O) O O ?_)))))
  refine AS.pas (v:=(vN ((edL g.ts).length))) O (AB O) (AG O underlying51) O O (AS.pas (v:=(Value.slice eb.p ((edL us).length) eb.c)) O (AB O) (BA O) O O (AS.pas (v:=(vN ((edL us).length))) O (AB O) (AG O underlying51) O O (AS.pas (v:=(Value.bool false)) O (AB O) (CP (c:=false) O O (decide_eq_false Z)) O O (Aw (v:=(Value.bool false)) O (AW O O) (AS.nil ?_)))))
  refine AD.subF (sL [2,6,7,9,10,13,14,96] O) (AD.then_ (AF.cond_false O (AF.skip (q1 (q4 ?_)))))
  refine AJ O (AE.nil (AD.subF (sL [2,6,7,9,10,13,14,15] O) (AD.then_ (AF.block ?_))))
  refine AF.lp1 (tg λ(i:Nat)=>i<=(edL g.ts).length) (tg λ(i:Nat)=>[(13,(Value.slice ea.p ((edL g.ts).length) ea.c)),(14,(Value.slice eb.p ((edL us).length) eb.c)),(15,(vN i))]) (tg λ(i:Nat)=>[Ah eb.p (rowsL B8 (edL us)),Ah ea.p (rowsL B8 (edL g.ts)),Ah pt1 (rowsL Am us),Ae b3 30 ([(Value.slice cp.a.p g.ps.length g.ps.length),(Value.slice pt1 us.length ct1),(Value.slice cp.c.p g.ss.length g.ss.length)]),Ah cp.c.p (rowsL Am g.ss),rowW cp.b.p 79 3 g.ts.length cp.b.c (rowsL Am g.ts),Ah cp.a.p (rowsL Aj g.ps),Ae b2 30 (Cm g.mx),Ah g.mx.a.p (rowsL Aj g.ps),Ah g.mx.b.p (rowsL Am g.ts),Ah g.mx.c.p (rowsL Am g.ss),Ae b1 50 (EE m),Ah m.p (Cl m.cs)]) (tg λ(i:Nat)=>(edL g.ts).length-i) 0 (Nat.zero_le _) (sF O) sr (λi hJ=>?_)
  have hil:=hJ
  refine AF.seq (q4 (AP O (AP O (AH (v:=(vN ((edL g.ts).length))) (AG O underlying51) O (AH (Af (c:=(decide (i<((edL g.ts).length)))) O O (DB (a:=i) (b:=(edL g.ts).length))) O ?_)))))
  refine AE.nil (AD.subF (sL [13,14,15,100] O) (AD.then_ ?_))
  refine AF.cond O (λhc3=>?_) (λhc3=>?_)
  ·replace hc3:=of_decide_eq_true hc3
   have hk4:=Vx hdp hnb Z hc3
   rw [<-hue] at hk4
   have u1:((edL g.ts).getD i (⟨0,0,0,0⟩:E4)).a=((edL us).getD i (⟨0,0,0,0⟩:E4)).a:=congrArg (λz=>z.1) hk4
   have u2:((edL g.ts).getD i (⟨0,0,0,0⟩:E4)).b=((edL us).getD i (⟨0,0,0,0⟩:E4)).b:=congrArg (λz=>z.2.1) hk4
   have u3:decide (((edL g.ts).getD i (⟨0,0,0,0⟩:E4)).l<0)=decide (((edL us).getD i (⟨0,0,0,0⟩:E4)).l<0):=congrArg (λz=>z.2.2.1) hk4
   have u4:decide (((edL g.ts).getD i (⟨0,0,0,0⟩:E4)).r<0)=decide (((edL us).getD i (⟨0,0,0,0⟩:E4)).r<0):=congrArg (λz=>z.2.2.2) hk4
   refine AF.skip (q1 (AF.block (AF.seq (DA [(0,true),(1,true),(2,true),(3,true),(4,true),(5,true),(6,true),(7,true),(8,true),(9,true),(10,true),(11,true),(12,true),(13,true),(14,true),(15,true),(16,true),(17,true),(18,true),(19,true),(20,true),(21,true),(22,true),(23,true),(24,true),(25,true),(26,true),(27,true),(28,true),(29,true),(30,true),(31,true),(32,true),(33,true),(34,true),(35,true),(36,true),(37,true),(38,true),(39,true),(40,true),(41,true),(42,true),(43,true),(44,true),(45,true),(46,true),(47,true),(48,true),(49,true),(50,true),(51,true),(52,true),(53,true)] sr (Bp O ?_)))))
   refine Bp O (Aw (v:=(pP (pB ea.p) (pO ea.p+i*4))) O (AR (j:=i) O O ea.ok underlying51 sizeOf65 O Z) (Aw (v:=(pP (pB ea.p) (pO ea.p+(i*4+0)))) O (AA O underlying65 O sizeOf3 (Nat.add_assoc _ _ _)) (Aw O (Av (v:=(vN (((edL g.ts).getD i (⟨0,0,0,0⟩:E4)).a))) (i:=1) O O (BL.ne ea.ok Z) B7 (CJ Bu (⟨0,0,0,0⟩:E4) _ _ 0 Z (by decide) O)) (Bp O (Bp O ?_)))))
   refine Aw (v:=(pP (pB eb.p) (pO eb.p+i*4))) O (AR (j:=i) O O eb.ok underlying51 sizeOf65 O Z) (Aw (v:=(pP (pB eb.p) (pO eb.p+(i*4+0)))) O (AA O underlying65 O sizeOf3 (Nat.add_assoc _ _ _)) (Aw O (Av (v:=(vN (((edL us).getD i (⟨0,0,0,0⟩:E4)).a))) (i:=0) O O (BL.ne eb.ok Z) B7 (CJ Bu (⟨0,0,0,0⟩:E4) _ _ 0 Z (by decide) O)) (Aw O (CP (c:=false) O O (decide_eq_false Z)) (Bp O (AS.pas (v:=(Value.slice ea.p ((edL g.ts).length) ea.c)) O (AB O) (BA O) O O ?_)))))
   refine AS.pas (v:=(vN i)) O (AB O) (BA O) O O (AS.pas (v:=(pP (pB ea.p) (pO ea.p+i*4))) O (AB O) (AR (j:=i) O O ea.ok underlying51 sizeOf65 O Z) O O (AS.pas (v:=(pP (pB ea.p) (pO ea.p+(i*4+1)))) O (AB O) (AA O underlying65 O sizeOf3 (Nat.add_assoc _ _ _)) O O (AS.pas (v:=(vN (((edL g.ts).getD i (⟨0,0,0,0⟩:E4)).b))) O (AB O) (Av (v:=(vN (((edL g.ts).getD i (⟨0,0,0,0⟩:E4)).b))) (i:=1) O O (BL.ne ea.ok Z) B7 (CJ Bu (⟨0,0,0,0⟩:E4) _ _ 1 Z (by decide) O)) O O (AS.pas (v:=(Value.slice eb.p ((edL us).length) eb.c)) O (AB O) (BA O) O O (AS.pas (v:=(vN i)) O (AB O) (BA O) O O ?_)))))
   refine AS.pas (v:=(pP (pB eb.p) (pO eb.p+i*4))) O (AB O) (AR (j:=i) O O eb.ok underlying51 sizeOf65 O Z) O O (AS.pas (v:=(pP (pB eb.p) (pO eb.p+(i*4+1)))) O (AB O) (AA O underlying65 O sizeOf3 (Nat.add_assoc _ _ _)) O O (AS.pas (v:=(vN (((edL us).getD i (⟨0,0,0,0⟩:E4)).b))) O (AB O) (Av (v:=(vN (((edL us).getD i (⟨0,0,0,0⟩:E4)).b))) (i:=0) O O (BL.ne eb.ok Z) B7 (CJ Bu (⟨0,0,0,0⟩:E4) _ _ 1 Z (by decide) O)) O O (AS.pas (v:=(Value.bool false)) O (AB O) (CP (c:=false) O O (decide_eq_false Z)) O O (Aw (v:=(Value.bool false)) O (AW O O) (Bp O ?_)))))
   refine AS.pas (v:=(Value.slice ea.p ((edL g.ts).length) ea.c)) O (AB O) (BA O) O O (AS.pas (v:=(vN i)) O (AB O) (BA O) O O (AS.pas (v:=(pP (pB ea.p) (pO ea.p+i*4))) O (AB O) (AR (j:=i) O O ea.ok underlying51 sizeOf65 O Z) O O (AS.pas (v:=(pP (pB ea.p) (pO ea.p+(i*4+2)))) O (AB O) (AA O underlying65 O sizeOf3 (Nat.add_assoc _ _ _)) O O (AS.pas (v:=(vI (((edL g.ts).getD i (⟨0,0,0,0⟩:E4)).l))) O (AB O) (Av (v:=(vI (((edL g.ts).getD i (⟨0,0,0,0⟩:E4)).l))) (i:=1) O O (BL.ne ea.ok Z) B7 (CJ Bu (⟨0,0,0,0⟩:E4) _ _ 2 Z (by decide) O)) O O (AS.pas (v:=(Value.bool (decide ((((edL g.ts).getD i (⟨0,0,0,0⟩:E4)).l)<(0:Int))))) O (AB O) (Af (c:=(decide ((((edL g.ts).getD i (⟨0,0,0,0⟩:E4)).l)<(0:Int)))) O O O) O O ?_)))))
   refine AS.pas (v:=(Value.slice eb.p ((edL us).length) eb.c)) O (AB O) (BA O) O O (AS.pas (v:=(vN i)) O (AB O) (BA O) O O (AS.pas (v:=(pP (pB eb.p) (pO eb.p+i*4))) O (AB O) (AR (j:=i) O O eb.ok underlying51 sizeOf65 O Z) O O (AS.pas (v:=(pP (pB eb.p) (pO eb.p+(i*4+2)))) O (AB O) (AA O underlying65 O sizeOf3 (Nat.add_assoc _ _ _)) O O (AS.pas (v:=(vI (((edL us).getD i (⟨0,0,0,0⟩:E4)).l))) O (AB O) (Av (v:=(vI (((edL us).getD i (⟨0,0,0,0⟩:E4)).l))) (i:=0) O O (BL.ne eb.ok Z) B7 (CJ Bu (⟨0,0,0,0⟩:E4) _ _ 2 Z (by decide) O)) O O (AS.pas (v:=(Value.bool (decide ((((edL us).getD i (⟨0,0,0,0⟩:E4)).l)<(0:Int))))) O (AB O) (Af (c:=(decide ((((edL us).getD i (⟨0,0,0,0⟩:E4)).l)<(0:Int)))) O O O) O O ?_)))))
   refine AS.pas (v:=(Value.bool false)) O (AB O) (F8 (c:=false) O O underlying4 (by rw [u3];simp)) O O (Aw (v:=(Value.bool false)) O (AW O O) (Bp O (AS.pas (v:=(Value.slice ea.p ((edL g.ts).length) ea.c)) O (AB O) (BA O) O O (AS.pas (v:=(vN i)) O (AB O) (BA O) O O (AS.pas (v:=(pP (pB ea.p) (pO ea.p+i*4))) O (AB O) (AR (j:=i) O O ea.ok underlying51 sizeOf65 O Z) O O ?_)))))
   refine AS.pas (v:=(pP (pB ea.p) (pO ea.p+(i*4+3)))) O (AB O) (AA O underlying65 O sizeOf3 (Nat.add_assoc _ _ _)) O O (AS.pas (v:=(vI (((edL g.ts).getD i (⟨0,0,0,0⟩:E4)).r))) O (AB O) (Av (v:=(vI (((edL g.ts).getD i (⟨0,0,0,0⟩:E4)).r))) (i:=1) O O (BL.ne ea.ok Z) B7 (CJ Bu (⟨0,0,0,0⟩:E4) _ _ 3 Z (by decide) O)) O O (AS.pas (v:=(Value.bool (decide ((((edL g.ts).getD i (⟨0,0,0,0⟩:E4)).r)<(0:Int))))) O (AB O) (Af (c:=(decide ((((edL g.ts).getD i (⟨0,0,0,0⟩:E4)).r)<(0:Int)))) O O O) O O (AS.pas (v:=(Value.slice eb.p ((edL us).length) eb.c)) O (AB O) (BA O) O O (AS.pas (v:=(vN i)) O (AB O) (BA O) O O (AS.pas (v:=(pP (pB eb.p) (pO eb.p+i*4))) O (AB O) (AR (j:=i) O O eb.ok underlying51 sizeOf65 O Z) O O ?_)))))
   refine AS.pas (v:=(pP (pB eb.p) (pO eb.p+(i*4+3)))) O (AB O) (AA O underlying65 O sizeOf3 (Nat.add_assoc _ _ _)) O O (AS.pas (v:=(vI (((edL us).getD i (⟨0,0,0,0⟩:E4)).r))) O (AB O) (Av (v:=(vI (((edL us).getD i (⟨0,0,0,0⟩:E4)).r))) (i:=0) O O (BL.ne eb.ok Z) B7 (CJ Bu (⟨0,0,0,0⟩:E4) _ _ 3 Z (by decide) O)) O O (AS.pas (v:=(Value.bool (decide ((((edL us).getD i (⟨0,0,0,0⟩:E4)).r)<(0:Int))))) O (AB O) (Af (c:=(decide ((((edL us).getD i (⟨0,0,0,0⟩:E4)).r)<(0:Int)))) O O O) O O (AS.pas (v:=(Value.bool false)) O (AB O) (F8 (c:=false) O O underlying4 (by rw [u4];simp)) O O (Aw (v:=(Value.bool false)) O (AW O O) (AS.nil ?_)))))
   refine AD.subF (sL [13,14,15,156] O) (AD.then_ (AF.cond_false O (AF.skip (AD.in_normal (AD.then_ ?_)))))
   exact AF.region (AP O (AH (AX (c:=((i+1:Nat):Int)) O O (AZ (a:=i) (b:=1) Z)) O (AJ O (AE.nil (AD.subF (sL [13,14,15] O) (AD.round1 (i+1) Z Z (sF O) sr))))))
  ·replace hc3:=of_decide_eq_false hc3
   refine AF.exit (AD.then_exit (AD.round1_exit (AD.in_exit (q2 (BS call21 (N8) O ?_)))))
   exact AJ O (AE.nil (AD.subF (sL [13,14,15,6] O) (AD.then_ (AF.ret (AN O (Ac (v:=(Value.bool true)) O) (λw hw=>⟨rfl,hw.out⟩))))))
end
section
open Go Go.RowKit Go.ChangeShapes Go.WideShapes Go.ChangeAt
theorem Ub:laidOutB Tryz.prog=true:=by kernel_rfl
theorem Rw:ownKnob Tryz.prog.godebug=none:=by kernel_rfl
theorem Gk {H:Type} {enc:TypeId×Value->H} {P:Program} (hl:laidOutB P=true) {W W':World} {sp:Nat->Bool} (hb:Eh W.heap.size W W') :
    ∀{ts:List TypeId} {vs:List Value} {ds:List (DataW H)} {ps:List MemPlace},(∀t∈ts,P.readableRec t=true/\t<P.types.size)->DataW.TrodAll enc P W 0 (λ_=>true) true ts vs ds ps ->
      (∀p∈ps,p.block<W.heap.size)->(∀p∈ps,sp p.block=true)->DataW.TrodAll enc P W' 0 sp true ts vs ds ps
  | [],_,_,_,_,h,_,_=>by
    obtain ⟨rfl,rfl,rfl⟩:=trodAll_nil h
    exact trodAll_mk0
  | t::ts,_,_,_,hr,h,hlt,hs=>by
    obtain ⟨v,vs1,d,ds1,a,b,rfl,rfl,rfl,h1,h2⟩:=trodAll_cons h
    exact ⟨a,b,WideElems.Trod_stays hl (hr t (by simp)).1 (hr t (by simp)).2 h1 (λx hx=>hb.same (hlt x (by simp [hx]))) (λx hx=>hs x (by simp [hx])),
      Gk hl hb (λu hu=>hr u (by simp [hu])) h2 (λp hp=>hlt p (by simp [hp])) (λp hp=>hs p (by simp [hp])),rfl⟩
theorem Su {H:Type} {enc:TypeId×Value->H} {P:Program} {f:Func} {s:ChangeSpec} {apart fresh handsOn again:Bool} {W W':World} {args:Array Value} {ds:List (DataW H)} {CD:List MemPlace} {tb:TypeId}
    (hW:DataW.Whole enc P f.params.toList s.vars apart W args.toList ds [] CD) (hv:s.vars=[]) (hfn:s.fn H ds=({ results:=[.lit (.bool true)],args:=ds }:Left H))
    (hrt:f.resultTypes=#[tb]) (hu:P.underlying tb=some .bool) (hb:Eh W.heap.size W W') (hl:laidOutB P=true) (hr:∀t∈f.params.toList,P.readableRec t=true/\t<P.types.size) :
    s.post enc P f apart fresh handsOn again W args (.bool true) W':=by
  have hlt:∀p∈CD,p.block<W.heap.size:=λp hp=>hW.lt p hp
  have hW2:=hW
  obtain ⟨pa,q,hA,hV,he,hz,hn⟩:=hW2
  rw [hv] at hV
  obtain ⟨_,rfl⟩:=trodVars_none hV
  simp only [List.append_nil] at he
  subst he
  have hres:∀(b:Nat) (sp:Nat->Bool) (hd:Bool),DataW.TrodAll enc P W' b sp hd f.resultTypes.toList ((Value.bool true).resultList f.resultTypes.size) (s.fn H (ds++[])).results []:=λb sp hd=>by
    rw [hrt,List.append_nil,hfn]
    exact trodAll_mk1 (shut_bool hu _)
  have hargs:∀sp:Nat->Bool,(∀p∈CD,sp p.block=true)->DataW.TrodAll enc P W' 0 sp true f.params.toList args.toList (s.fn H (ds++[])).args CD:=λsp hs=>by
    rw [List.append_nil,hfn]
    exact Gk hl hb hr hA hlt hs
  have hvars:∀sp:Nat->Bool,DataW.TrodVars enc P W' sp s.vars (s.fn H (ds++[])).vars []:=λsp=>by
    rw [List.append_nil,hfn,hv];rfl
  have hold:∀p∈CD,(λb=>decide (b<W.heap.size)) p.block=true:=λp hp=>by simpa using hlt p hp
  refine ⟨ds,[],CD,[],CD,[],hW,hres _ _ _,hargs _ hold,hvars _,World.keptBut_mono (λp hp=>⟨hp,Or.inr (by simpa using hp)⟩) (hb.frame (·∈CD)),λ_=>⟨?_,_,_,([]++CD)++[],⟨[]++CD,[],trodAll_append (hargs _ (λ_ _=>rfl)) (hres _ _ _),hvars _,rfl,?_,?_⟩,?_⟩⟩
  · exact ok_one hrt O (okWide_bool_mk hu _)
  · intro b off hp
    have hp':MemPlace.cell b off∈CD:=by simpa using hp
    rw [hb.frozen (hlt _ hp')]
    exact hz b off hp'
  · intro ha
    have:=hn ha
    simpa using this
  · intro p hp _
    simpa using hp
end
section
open Go Go.RowKit Go.WideShapes
section
variable {P:Program} {w:World} {r:Reach} {base:Nat}
theorem Dg {u:TypeId} {v:Value} {k:IntKind} (hu:P.underlying u=some (.int k)) (h:Cell.okWide P w r base u v):∃n,v=.int k n/\k.has n:=by
  simp only [Cell.okWide,hu] at h
  unfold Cell.ok at h
  rw [hu] at h
  cases v<;>simp at h
  exact ⟨_,by rw [h.1],h.2⟩
theorem Nt {u e:TypeId} {v:Value} (hu:P.underlying u=some (.slice e)) (h:Cell.okWide P w r base u v) :
    v=.slice none 0 0\/∃a len cap,v=.slice (some a) len cap/\len<=cap/\a.spot=none/\∃cur T fr,w.heap[a.block]?=some (.cells cur T fr):=by
  simp only [Cell.okWide,hu] at h
  unfold Cell.ok at h
  rw [hu] at h
  cases v with
  | slice p len cap =>
    cases p with
    | none =>
      left
      split at h<;>simp_all
    | some a =>
      right
      have h':len<=cap/\(cap:Int)<=IntKind.i64.max/\w.has P r base a e cap:=h
      obtain ⟨h1,_,_,h2,row,cells,h3,_⟩:=h'
      refine ⟨a,len,cap,rfl,h1,h2,?_⟩
      unfold World.shape? at h3
      split at h3
      · rename_i cur T fr e;exact ⟨cur,T,fr,e⟩
      · cases h3
  | _=>simp at h
theorem LX {n:Int} (h:IntKind.i8.has n):-128<=n/\n<=127:=by
  simp only [IntKind.has,IntKind.min,IntKind.max,IntKind.bits,IntKind.signed] at h;simp at h;omega
theorem SH {n:Int} (h:IntKind.u8.has n):0<=n/\n<256:=by
  simp only [IntKind.has,IntKind.min,IntKind.max,IntKind.bits,IntKind.signed] at h;simp at h;omega
theorem Je {n:Int} (h:IntKind.u8.has n):∃m:Nat,n=(m:Int)/\m<256:=by
  have:=SH h
  exact ⟨n.toNat,Z,Z⟩
theorem RO {t:TypeId} {v:Value} (ht:P.underlying t=some (.int .u8)) (h:Value.okWide P w r base t v):∃m:Nat,v=.int .u8 (m:Nat)/\m<256:=by
  have h1:Cell.okWide P w r base t v:=by unfold Value.okWide at h;rw [ht] at h;exact h
  obtain ⟨n,rfl,hn⟩:=Dg ht h1
  have:=SH hn
  exact ⟨n.toNat,by congr 1;omega,Z⟩
theorem M1 {f:Nat->Option Value}:∀(len:Nat),(∀i,i<len->∃m:Nat,f i=some (.int .u8 (m:Nat))/\m<256)->∃l:List Nat,l.length=len/\(∀x∈l,x<256)/\∀i,i<len->f i=(Cl l)[i]?
  | 0,_=>⟨[],rfl,(λx h=>by cases h),λi h=>absurd h (Nat.not_lt_zero _)⟩
  | n+1,h=>by
    obtain ⟨l,h1,h2,h3⟩:=M1 n λi hi=>h i Z
    obtain ⟨m,h4,h5⟩:=h n Z
    refine ⟨l++[m],by simp [h1],λx hx=>?_,λi hi=>?_⟩
    · rcases List.mem_append.1 hx with hx|hx
      · exact h2 x hx
      · rcases List.mem_singleton.1 hx with rfl;exact h5
    · rcases Nat.lt_or_ge i n with h6|h6
      · rw [h3 i h6];simp [Cl,List.getElem?_append,h1,h6]
      · obtain rfl:i=n:=by omega
        rw [h4];simp [Cl,List.getElem?_append,h1]
theorem Nl {cur:Array Value} {T:TypeId} {fr:Nat×Nat} {off len:Nat} {l:List Nat} (hl:l.length=len) (h:∀i,i<len->cur[off+i]?=(Cl l)[i]?):KX off (Cl l) (.cells cur T fr):=by
  have hb:(Cl l).length=len:=by simp [Cl,hl]
  refine ⟨cur,T,fr,rfl,List.ext_getElem? λi=>?_⟩
  rw [List.getElem?_take,hb]
  split
  · rename_i hi
    rw [List.getElem?_drop,Array.getElem?_toList,h i hi]
  · rw [List.getElem?_eq_none Z]
theorem Wy {H:Type} {enc:TypeId×Value->H} {W:World} {sp:Nat->Bool} {hd:Bool} {t ts e a0 a1 a2 a3 a4 a5 a6 a7:TypeId} {v:Value} {d:DataW H} {ps:List MemPlace} {fs:Array Field} (ht:P.underlying t=some (.struct fs)) (hf:∃f,fs[2]?=some f/\f.type=ts/\f.offset=2)
    (hts:P.underlying ts=some (.slice e)) (h1:P.cellsOf ts=1) (he:P.underlying e=some (.int .u8)) (h1e:P.cellsOf e=1) (hct:P.cellTypes P.depth t=some [a0,a1,ts,a2,a3,a4,a5,a6,a7]) (hsz:P.cellsOf t=9)
    (hk:[a0,a1,a2,a3,a4,a5,a6,a7].map P.underlying=[IntKind.u8,.u8,.i8,.i8,.i8,.i8,.u8,.u8].map (λk=>some (.int k)))
    (hv:Value.okWide P W r base t v) (hT:DataW.Trod enc P W 0 sp hd t v d ps):∃m:MQ,v=aG (EE m)/\Ro (λ_=>True) W m:=by
  unfold Value.okWide at hv
  rw [ht] at hv
  obtain ⟨⟨cs⟩,rfl,hs,ts',hts',_,hc⟩:=hv
  obtain rfl:=Option.some.inj (hct.symm.trans hts')
  have hl:cs.length=9:=by rw [<-hsz,<-hs];simp
  match cs,hl,hc,hT with
  | [c0,c1,c2,c3,c4,c5,c6,c7,c8],_,hc,hT =>
    simp only [List.map_cons,List.map_nil,List.cons.injEq,and_true] at hk
    obtain ⟨k0,k1,k2,k3,k4,k5,k6,k7⟩:=hk
    have g:∀(i:Nat) (u:TypeId) (v:Value),i<9->[a0,a1,ts,a2,a3,a4,a5,a6,a7][i]?=some u->[c0,c1,c2,c3,c4,c5,c6,c7,c8][i]?=some v->Cell.okWide P W r base u v:=λi u v hi hu hv=>by
      obtain ⟨u',h2,h3⟩:=hc i v (by simpa using hv)
      rw [Nat.mod_eq_of_lt (by simpa using hi),hu] at h2
      cases h2;exact h3
    obtain ⟨n0,rfl,b0⟩:=Dg k0 (g 0 _ _ (by decide) rfl rfl)
    obtain ⟨n1,rfl,b1⟩:=Dg k1 (g 1 _ _ (by decide) rfl rfl)
    obtain ⟨n2,rfl,b2⟩:=Dg k2 (g 3 _ _ (by decide) rfl rfl)
    obtain ⟨n3,rfl,b3⟩:=Dg k3 (g 4 _ _ (by decide) rfl rfl)
    obtain ⟨n4,rfl,b4⟩:=Dg k4 (g 5 _ _ (by decide) rfl rfl)
    obtain ⟨n5,rfl,b5⟩:=Dg k5 (g 6 _ _ (by decide) rfl rfl)
    obtain ⟨n6,rfl,b6⟩:=Dg k6 (g 7 _ _ (by decide) rfl rfl)
    obtain ⟨n7,rfl,b7⟩:=Dg k7 (g 8 _ _ (by decide) rfl rfl)
    obtain ⟨m0,rfl,e0⟩:=Je b0
    obtain ⟨m1,rfl,e1⟩:=Je b1
    obtain ⟨m6,rfl,e6⟩:=Je b6
    obtain ⟨m7,rfl,e7⟩:=Je b7
    have hsl:=Nt hts (g 2 _ _ (by decide) rfl rfl)
    have key:∃(l:List Nat) (p:Option Addr) (cap:Nat),c2=.slice p l.length cap/\(∀x∈l,x<256)/\BL p l.length cap/\C2 W (Ah p (Cl l)):=by
      rcases hsl with rfl|⟨a,len,cap,rfl,hlc,hsp,cur,T,fr,hcur⟩
      · exact ⟨[],none,0,rfl,(λx h=>by cases h),⟨λ_=>⟨rfl,rfl⟩,(λa e=>by cases e),Nat.le_refl _⟩,λb e=>by cases e⟩
      · obtain ⟨fuel,hT⟩:=hT
        obtain ⟨xs,n,_,_,_,hxl,hx⟩:=DataW.trod_struct ht hT
        obtain ⟨f,hf1,rfl,hf3⟩:=hf
        have hx2:=hx 2 f hf1
        have hlt:2<xs.length:=by
          rw [hxl]
          rcases Nat.lt_or_ge 2 fs.size with h|h
          · exact h
          · rw [Array.getElem?_eq_none h] at hf1;cases hf1
        rw [hf3,h1,List.getElem?_eq_getElem hlt] at hx2
        rcases DataW.trod_slice hts hx2 with ⟨h2,_⟩|⟨a',len',cap',elems,rest,n',_,h2,_,_,_,_,hel,hes,_⟩
        · cases h2
        · obtain ⟨rfl,rfl,rfl⟩:a=a'/\len=len'/\cap=cap':=by
            have h3:[Value.slice (some a) len cap]=[Value.slice (some a') len' cap']:=h2
            simp only [List.cons.injEq,Value.slice.injEq,Option.some.injEq,and_true] at h3
            exact h3
          have hbyte:∀i,i<len->∃m:Nat,cur[a.off+i]?=some (.int .u8 (m:Nat))/\m<256:=λi hi=>by
            have h3:=hes i hi
            rw [List.getElem?_eq_getElem Z,Option.bind_eq_some_iff] at h3
            obtain ⟨cs',h4,h5⟩:=h3
            obtain ⟨n,rfl,_,hwf⟩:=DataW.trod_int he h5
            rw [h1e,Nat.mul_one] at h4
            unfold World.cells? at h4
            rw [if_pos (Nat.zero_le _)] at h4
            have h6:=mapM_some_get h4 0 0 (by simp)
            rw [List.getElem?_cons_zero] at h6
            have ha:a=⟨a.block,a.off,none⟩:=by rw [<-hsp]
            have h7:W.cell? ((a.add i).add 0)=some (Value.int IntKind.u8 n):=h6
            rw [ha,add_plain,add_plain,Nat.add_zero] at h7
            unfold World.cell? at h7
            simp only [hcur] at h7
            have h8:IntKind.u8.has n:=by
              have h9:(decide (IntKind.u8.min<=n)&&decide (n<=IntKind.u8.max))=true:=hwf
              rw [Bool.and_eq_true,decide_eq_true_eq,decide_eq_true_eq] at h9
              exact h9
            obtain ⟨m,rfl,hm⟩:=Je h8
            exact ⟨m,by simpa using h7,hm⟩
          obtain ⟨l,hl1,hl2,hl3⟩:=M1 len hbyte
          refine ⟨l,some a,cap,by rw [hl1],hl2,⟨(λe=>by cases e),(λa' e=>by cases e;exact hsp),Z⟩,λb e=>?_⟩
          have hb:a.block=b:=Option.some.inj e
          subst hb
          exact ⟨_,hcur,Nl hl1 hl3⟩
    obtain ⟨l,p,cap,rfl,hl2,hok,hh⟩:=key
    exact ⟨⟨m0,m1,l,p,cap,n2,n3,n4,n5,m6,m7,e0,e1,LX b2,LX b3,LX b4,LX b5,e6,e7,hl2,hok⟩,rfl,λy hy=>by
      rcases List.mem_singleton.1 hy with rfl
      exact ⟨hh,λ_ _=>trivial⟩⟩
end
end
end Go.Proofs.YtfbomiejpbchdaaGreatDoor
