import Derived.Test.YtfbomiejpbchdaaGreatPart06
import Derived.Test.YtfbomiejpbchdaaGreatPart07
import Derived.Test.YtfbomiejpbchdaaGreatPart31
import Derived.Test.YtfbomiejpbchdaaGreatPart34
import Derived.Test.YtfbomiejpbchdaaGreatPart36
namespace Go.Proofs.YtfbomiejpbchdaaGreat
open Go Go.RowKit
set_option linter.unusedVariables false
set_option linter.unusedSimpArgs false
section
set_option maxRecDepth 100000
theorem C0 (x0:Pt):Instr.fill (λi=>some (i*10,10)) ((Array.range (1*10)).map ((Value.agg (An (⟨0,0⟩:Pt)).toArray).cells[·%(Value.agg (An (⟨0,0⟩:Pt)).toArray).cells.size]!)) [(0,.agg (An x0).toArray)]=some (An x0).toArray:=by kernel_rfl
theorem G1 (a b p:Pt) (ha:DT a<=1000) (hb:DT b<=1000) (hp:DT p<=1000) (w:World)  :Calls Tryz.prog 17 #[(aG (An a)),(aG (An b)),(aG (An p))] w (Ax w (Value.bool (decide (onS a b p)))):=by
 refine Ad (args:=[(aG (An a)),(aG (An b)),(aG (An p))]) Tryz.func17 rfl rfl (Af rfl) (AE.subF (sL [0,1,2] rfl) (q4 (CB (cs:=An a) rfl λb1=>CB (cs:=An b) rfl λb2=>CB (cs:=An p) rfl λb3=>?_)))
 refine AL rfl (q6 (sL [3,4,5,6] rfl) ?_)
 by_cases k1:B9 a b p=0
 ·skip
  by_cases k2:Hz p (Ks a b)
  ·skip
   refine C7 [(0,true),(1,true),(2,true),(3,false),(4,true),(5,true),(6,true),(7,true),(8,true),(9,false),(10,false),(11,false),(12,true),(13,true),(14,true),(15,true),(16,true),(19,true),(17,false),(18,false),(20,false),(21,true),(22,true),(23,true)] sr (Db 2 BM rfl (Db 1 BM rfl (Db 0 BM rfl (AP.imp rfl (BY Tryz.call52 (HW a b p (by omega)) rfl ?_)))))
   refine AP.back sr (Au rfl (Bp (c:=true) rfl rfl (decide_eq_true (Kl k1))) (Bl rfl (AP.pas (v:=(aG (An p))) rfl (AB rfl) (Ak (i:=0) (vs:=An p) rfl rfl BM.a BM.s rfl rfl) rfl rfl (AP.pas (v:=(aG (An a))) rfl (AB rfl) (Ak (i:=2) (vs:=An a) rfl rfl BM.a BM.s rfl rfl) rfl rfl (AP.pas (v:=(aG (An b))) rfl (AB rfl) (Ak (i:=1) (vs:=An b) rfl rfl BM.a BM.s rfl rfl) rfl rfl ?_)))))
   refine AP.imp rfl (AD.openV (V:=λb4=>(Value.slice (some ⟨b4,0,none⟩) 1 1)) (T:=55) (cs:=An b) (AB rfl) (Ah (z:=.agg (An (⟨0,0⟩:Pt)).toArray) (cs:=An b) (pv:=[(0,(aG (An b)))]) Tryz.underlying27 Tryz.sizeOf55 Tryz.zeroValue55 (by decide) (by decide) rfl (C0 b)) rfl (Af rfl) λb4=>AP.back (sl sr) (AP.imp rfl (AD.call (v:=(aG (An (Ks a b)))) (AB rfl) (A8 (args:=[(aG (An a)),(Value.slice (some ⟨b4,0,none⟩) 1 1)]) rfl rfl Tryz.call54) (λw hw=>Kh a b ⟨some ⟨b4,0,none⟩,1,C8 _ _⟩ ha hb w (JU (hw.get (i:=0) rfl))) rfl (Af rfl) (AP.back (sl sr) ?_))))
   refine AP.imp rfl (AD.call (v:=(Value.bool (decide (Hz p (Ks a b))))) (AB rfl) (A8 (args:=[(aG (An p)),(aG (An (Ks a b)))]) rfl rfl Tryz.call53) (λw hw=>Dv p (Ks a b) hp (Tv ha hb) w) rfl (Af rfl) (AP.back (sl sr) (AP.pas (v:=(Value.bool false)) rfl (AB rfl) (CR (c:=false) rfl (by simp [k2])) rfl rfl (Au (v:=(Value.bool false)) rfl (Ae rfl rfl) (Bl rfl ?_)))))
   refine AP.skp rfl (AM rfl) rfl rfl (AP.skp rfl (AM rfl) rfl rfl (AP.skp rfl (AM rfl) rfl rfl (AP.imp rfl (AD.skip (AM rfl) rfl (Af rfl) (AP.back (sl sr) ?_)))))
   refine AP.imp rfl (AD.skip (AM rfl) rfl (Af rfl) (AP.back (sl sr) (AP.imp rfl (AD.skip (AM rfl) rfl (Af rfl) (AP.back (sl sr) ?_)))))
   refine AP.skp rfl (AM rfl) rfl rfl (Au (v:=(Value.bool false)) rfl (Aa rfl rfl) (E5 rfl (AP.nil (AC.subF (sL [6] rfl) (AC.then_ ?_)))))
   exact AE.ret (AU rfl (Am (v:=(Value.bool false)) rfl) (λw hw=>⟨by rw [show decide (onS a b p)=false from decide_eq_false (by first|exact λh9=>h9.2.2 k3|exact λh9=>h9.2.1 k2|exact λh9=>k1 h9.1)],hw.out⟩))
  ·skip
   by_cases k3:Hz (My a b) p
   ·skip
    refine C7 [(0,true),(1,true),(2,true),(3,false),(4,true),(5,true),(6,true),(7,true),(8,true),(9,false),(10,false),(11,false),(12,true),(13,true),(14,true),(15,true),(16,true),(19,true),(17,false),(18,false),(20,false),(21,true),(22,true),(23,true)] sr (Db 2 BM rfl (Db 1 BM rfl (Db 0 BM rfl (AP.imp rfl (BY Tryz.call52 (HW a b p (by omega)) rfl ?_)))))
    refine AP.back sr (Au rfl (Bp (c:=true) rfl rfl (decide_eq_true (Kl k1))) (Bl rfl (AP.pas (v:=(aG (An p))) rfl (AB rfl) (Ak (i:=0) (vs:=An p) rfl rfl BM.a BM.s rfl rfl) rfl rfl (AP.pas (v:=(aG (An a))) rfl (AB rfl) (Ak (i:=2) (vs:=An a) rfl rfl BM.a BM.s rfl rfl) rfl rfl (AP.pas (v:=(aG (An b))) rfl (AB rfl) (Ak (i:=1) (vs:=An b) rfl rfl BM.a BM.s rfl rfl) rfl rfl ?_)))))
    refine AP.imp rfl (AD.openV (V:=λb4=>(Value.slice (some ⟨b4,0,none⟩) 1 1)) (T:=55) (cs:=An b) (AB rfl) (Ah (z:=.agg (An (⟨0,0⟩:Pt)).toArray) (cs:=An b) (pv:=[(0,(aG (An b)))]) Tryz.underlying27 Tryz.sizeOf55 Tryz.zeroValue55 (by decide) (by decide) rfl (C0 b)) rfl (Af rfl) λb4=>AP.back (sl sr) (AP.imp rfl (AD.call (v:=(aG (An (Ks a b)))) (AB rfl) (A8 (args:=[(aG (An a)),(Value.slice (some ⟨b4,0,none⟩) 1 1)]) rfl rfl Tryz.call54) (λw hw=>Kh a b ⟨some ⟨b4,0,none⟩,1,C8 _ _⟩ ha hb w (JU (hw.get (i:=0) rfl))) rfl (Af rfl) (AP.back (sl sr) ?_))))
    refine AP.imp rfl (AD.call (v:=(Value.bool (decide (Hz p (Ks a b))))) (AB rfl) (A8 (args:=[(aG (An p)),(aG (An (Ks a b)))]) rfl rfl Tryz.call53) (λw hw=>Dv p (Ks a b) hp (Tv ha hb) w) rfl (Af rfl) (AP.back (sl sr) (AP.pas (v:=(Value.bool true)) rfl (AB rfl) (CR (c:=true) rfl (by simp [k2])) rfl rfl (Au (v:=(Value.bool true)) rfl (Ae rfl rfl) (Bl rfl ?_)))))
    refine AP.pas (v:=(aG (An a))) rfl (AB rfl) (Ak (i:=2) (vs:=An a) rfl rfl BM.a BM.s rfl rfl) rfl rfl (AP.pas (v:=(aG (An b))) rfl (AB rfl) (Ak (i:=1) (vs:=An b) rfl rfl BM.a BM.s rfl rfl) rfl rfl (AP.pas (v:=(aG (An p))) rfl (AB rfl) (Ak (i:=0) (vs:=An p) rfl rfl BM.a BM.s rfl rfl) rfl rfl (AP.imp rfl (AD.openV (V:=λb5=>(Value.slice (some ⟨b5,0,none⟩) 1 1)) (T:=55) (cs:=An b) (AB rfl) (Ah (z:=.agg (An (⟨0,0⟩:Pt)).toArray) (cs:=An b) (pv:=[(0,(aG (An b)))]) Tryz.underlying27 Tryz.sizeOf55 Tryz.zeroValue55 (by decide) (by decide) rfl (C0 b)) rfl (Af rfl) λb5=>AP.back (sl (sl sr)) ?_))))
    refine AP.imp rfl (AD.call (v:=(aG (An (My a b)))) (AB rfl) (A8 (args:=[(aG (An a)),(Value.slice (some ⟨b5,0,none⟩) 1 1)]) rfl rfl Tryz.call55) (λw hw=>NW a b ⟨some ⟨b5,0,none⟩,1,C8 _ _⟩ ha hb w (JU (hw.get (i:=0) rfl))) rfl (Af rfl) (AP.back (sl (sl sr)) (AP.imp rfl (AD.call (v:=(Value.bool (decide (Hz (My a b) p)))) (AB rfl) (A8 (args:=[(aG (An (My a b))),(aG (An p))]) rfl rfl Tryz.call53) (λw hw=>Dv (My a b) p (V7 ha hb) hp w) rfl (Af rfl) (AP.back (sl (sl sr)) ?_)))))
    refine AP.pas (v:=(Value.bool false)) rfl (AB rfl) (CR (c:=false) rfl (by simp [k3])) rfl rfl (Au (v:=(Value.bool false)) rfl (Ae rfl rfl) (E5 rfl (AP.nil (AC.subF (sL [6] rfl) (AC.then_ ?_)))))
    exact AE.ret (AU rfl (Am (v:=(Value.bool false)) rfl) (λw hw=>⟨by rw [show decide (onS a b p)=false from decide_eq_false (by first|exact λh9=>h9.2.2 k3|exact λh9=>h9.2.1 k2|exact λh9=>k1 h9.1)],hw.out⟩))
   ·skip
    refine C7 [(0,true),(1,true),(2,true),(3,false),(4,true),(5,true),(6,true),(7,true),(8,true),(9,false),(10,false),(11,false),(12,true),(13,true),(14,true),(15,true),(16,true),(19,true),(17,false),(18,false),(20,false),(21,true),(22,true),(23,true)] sr (Db 2 BM rfl (Db 1 BM rfl (Db 0 BM rfl (AP.imp rfl (BY Tryz.call52 (HW a b p (by omega)) rfl ?_)))))
    refine AP.back sr (Au rfl (Bp (c:=true) rfl rfl (decide_eq_true (Kl k1))) (Bl rfl (AP.pas (v:=(aG (An p))) rfl (AB rfl) (Ak (i:=0) (vs:=An p) rfl rfl BM.a BM.s rfl rfl) rfl rfl (AP.pas (v:=(aG (An a))) rfl (AB rfl) (Ak (i:=2) (vs:=An a) rfl rfl BM.a BM.s rfl rfl) rfl rfl (AP.pas (v:=(aG (An b))) rfl (AB rfl) (Ak (i:=1) (vs:=An b) rfl rfl BM.a BM.s rfl rfl) rfl rfl ?_)))))
    refine AP.imp rfl (AD.openV (V:=λb4=>(Value.slice (some ⟨b4,0,none⟩) 1 1)) (T:=55) (cs:=An b) (AB rfl) (Ah (z:=.agg (An (⟨0,0⟩:Pt)).toArray) (cs:=An b) (pv:=[(0,(aG (An b)))]) Tryz.underlying27 Tryz.sizeOf55 Tryz.zeroValue55 (by decide) (by decide) rfl (C0 b)) rfl (Af rfl) λb4=>AP.back (sl sr) (AP.imp rfl (AD.call (v:=(aG (An (Ks a b)))) (AB rfl) (A8 (args:=[(aG (An a)),(Value.slice (some ⟨b4,0,none⟩) 1 1)]) rfl rfl Tryz.call54) (λw hw=>Kh a b ⟨some ⟨b4,0,none⟩,1,C8 _ _⟩ ha hb w (JU (hw.get (i:=0) rfl))) rfl (Af rfl) (AP.back (sl sr) ?_))))
    refine AP.imp rfl (AD.call (v:=(Value.bool (decide (Hz p (Ks a b))))) (AB rfl) (A8 (args:=[(aG (An p)),(aG (An (Ks a b)))]) rfl rfl Tryz.call53) (λw hw=>Dv p (Ks a b) hp (Tv ha hb) w) rfl (Af rfl) (AP.back (sl sr) (AP.pas (v:=(Value.bool true)) rfl (AB rfl) (CR (c:=true) rfl (by simp [k2])) rfl rfl (Au (v:=(Value.bool true)) rfl (Ae rfl rfl) (Bl rfl ?_)))))
    refine AP.pas (v:=(aG (An a))) rfl (AB rfl) (Ak (i:=2) (vs:=An a) rfl rfl BM.a BM.s rfl rfl) rfl rfl (AP.pas (v:=(aG (An b))) rfl (AB rfl) (Ak (i:=1) (vs:=An b) rfl rfl BM.a BM.s rfl rfl) rfl rfl (AP.pas (v:=(aG (An p))) rfl (AB rfl) (Ak (i:=0) (vs:=An p) rfl rfl BM.a BM.s rfl rfl) rfl rfl (AP.imp rfl (AD.openV (V:=λb5=>(Value.slice (some ⟨b5,0,none⟩) 1 1)) (T:=55) (cs:=An b) (AB rfl) (Ah (z:=.agg (An (⟨0,0⟩:Pt)).toArray) (cs:=An b) (pv:=[(0,(aG (An b)))]) Tryz.underlying27 Tryz.sizeOf55 Tryz.zeroValue55 (by decide) (by decide) rfl (C0 b)) rfl (Af rfl) λb5=>AP.back (sl (sl sr)) ?_))))
    refine AP.imp rfl (AD.call (v:=(aG (An (My a b)))) (AB rfl) (A8 (args:=[(aG (An a)),(Value.slice (some ⟨b5,0,none⟩) 1 1)]) rfl rfl Tryz.call55) (λw hw=>NW a b ⟨some ⟨b5,0,none⟩,1,C8 _ _⟩ ha hb w (JU (hw.get (i:=0) rfl))) rfl (Af rfl) (AP.back (sl (sl sr)) (AP.imp rfl (AD.call (v:=(Value.bool (decide (Hz (My a b) p)))) (AB rfl) (A8 (args:=[(aG (An (My a b))),(aG (An p))]) rfl rfl Tryz.call53) (λw hw=>Dv (My a b) p (V7 ha hb) hp w) rfl (Af rfl) (AP.back (sl (sl sr)) ?_)))))
    refine AP.pas (v:=(Value.bool true)) rfl (AB rfl) (CR (c:=true) rfl (by simp [k3])) rfl rfl (Au (v:=(Value.bool true)) rfl (Ae rfl rfl) (E5 rfl (AP.nil (AC.subF (sL [6] rfl) (AC.then_ ?_)))))
    exact AE.ret (AU rfl (Am (v:=(Value.bool true)) rfl) (λw hw=>⟨by rw [show decide (onS a b p)=true from decide_eq_true ⟨k1,k2,k3⟩],hw.out⟩))
 ·skip
  refine C7 [(0,true),(1,true),(2,true),(3,false),(4,true),(5,true),(6,true),(7,true),(8,true),(9,false),(10,false),(11,false),(12,true),(13,true),(14,true),(15,true),(16,true),(19,true),(17,false),(18,false),(20,false),(21,true),(22,true),(23,true)] sr (Db 2 BM rfl (Db 1 BM rfl (Db 0 BM rfl (AP.imp rfl (BY Tryz.call52 (HW a b p (by omega)) rfl ?_)))))
  refine AP.back sr (Au rfl (Bp (c:=false) rfl rfl (decide_eq_false (λh9=>k1 (Ut h9)))) (Bl rfl (AP.skp rfl (AM rfl) rfl rfl (AP.skp rfl (AM rfl) rfl rfl (AP.skp rfl (AM rfl) rfl rfl ?_)))))
  refine AP.imp rfl (AD.skip (AM rfl) rfl (Af rfl) (AP.back sr (AP.imp rfl (AD.skip (AM rfl) rfl (Af rfl) (AP.back sr ?_)))))
  refine AP.imp rfl (AD.skip (AM rfl) rfl (Af rfl) (AP.back sr (AP.skp rfl (AM rfl) rfl rfl (Au (v:=(Value.bool false)) rfl (Aa rfl rfl) (Bl rfl ?_)))))
  refine AP.skp rfl (AM rfl) rfl rfl (AP.skp rfl (AM rfl) rfl rfl (AP.skp rfl (AM rfl) rfl rfl (AP.imp rfl (AD.skip (AM rfl) rfl (Af rfl) (AP.back sr ?_)))))
  refine AP.imp rfl (AD.skip (AM rfl) rfl (Af rfl) (AP.back sr (AP.imp rfl (AD.skip (AM rfl) rfl (Af rfl) (AP.back sr ?_)))))
  refine AP.skp rfl (AM rfl) rfl rfl (Au (v:=(Value.bool false)) rfl (Aa rfl rfl) (E5 rfl (AP.nil (AC.subF (sL [6] rfl) (AC.then_ ?_)))))
  exact AE.ret (AU rfl (Am (v:=(Value.bool false)) rfl) (λw hw=>⟨by rw [show decide (onS a b p)=false from decide_eq_false (by first|exact λh9=>h9.2.2 k3|exact λh9=>h9.2.1 k2|exact λh9=>k1 h9.1)],hw.out⟩))
end
section
def KD (ts:List T3):Nat->List (P2×Nat)
  | 0=>[]
  | s+1=>BC (KD ts s) (Bb ts s) (s/3)
def F2 (ts:List T3):Nat->Bool
  | 0=>true
  | s+1=>F2 ts s&&(Ab (KD ts s) (Bb ts s)).isNone
section
variable {ts:List T3} {N t r s:Nat}
theorem Pi:∀n,s<=n->F2 ts n=true->F2 ts s=true
  | 0,h,k=>by rw [show s=0 by omega];rfl
  | n+1,h,k=>by
    have k:(F2 ts n&&_)=true:=k
    rcases Nat.lt_or_ge s (n+1) with h1|h1
    · exact Pi n (by omega) (Bool.and_eq_true _ _▸k).1
    · rw [show s=n+1 by omega];exact k
end
structure SX (ts:List T3) (o:Bool) where
  b:Nat
  kvs:List (P2×Nat)
  ok:F3 Mb kvs
  fin:o=true->kvs=KD ts (3*ts.length)
instance {ts:List T3} {o:Bool}:Dx (SX ts o):=⟨λx=>.tuple #[.map (some x.b),.bool o],λx=>[Xj x.b GN vN x.kvs],λx y hy=>by rcases List.mem_singleton.1 hy with rfl;rfl⟩
def ED (ss:List T3) (k i:Nat):List T3:=(ss.take i).filter λs=>decide (s.2.2=k)
theorem TU {ss:List T3} {k i:Nat} (hi:i<ss.length) (h:(ss.getD i (0,0,0)).2.2=k):ED ss k (i+1)=ED ss k i++[ss.getD i (0,0,0)]:=by
  unfold ED
  rw [FP hi,List.filter_append,List.filter_cons,if_pos (decide_eq_true h)];rfl
theorem VE {ss:List T3} {k i:Nat} (hi:i<ss.length) (h:¬(ss.getD i (0,0,0)).2.2=k):ED ss k (i+1)=ED ss k i:=by
  unfold ED
  rw [FP hi,List.filter_append,List.filter_cons,if_neg (by simpa using h)];simp
theorem Nd {ss:List T3} {k:Nat} (i:Nat):(ED ss k i).length<=i:=Nat.le_trans (List.length_filter_le _ _) (List.length_take_le _ _)
end
section
set_option maxRecDepth 100000
end
section
set_option maxRecDepth 100000
end
section
set_option maxRecDepth 100000
theorem KX (x0:Nat×Nat×Nat):Instr.fill (λi=>some (i*3,3)) ((Array.range (1*3)).map ((Value.agg (Ai ((0,0,0):Nat×Nat×Nat)).toArray).cells[·%(Value.agg (Ai ((0,0,0):Nat×Nat×Nat)).toArray).cells.size]!)) [(0,.agg (Ai x0).toArray)]=some (Ai x0).toArray:=by kernel_rfl
set_option maxHeartbeats 1000000 in
theorem Li {ps:List Pt} {ts ss:List T3} (x:MX ps ts ss) (k:Nat) (hk:k<4611686018427387904) (hsl:ss.length<=1000000) (w:World) {S:Nat->Prop} (hx:Ro S w x):Calls Tryz.prog 16 #[(aG (B5 x)),(vN k)] w (Bc (RX (rowsL Ai (ED ss k ss.length)) (ED ss k ss.length).length) S w):=by
 have lx:=H0 (W:=w) hx
 refine BQ (args:=[(aG (B5 x)),(vN k)]) (L:=[AX x.a.p (rowsL An ps),AX x.b.p (rowsL Ai ts),AX x.c.p (rowsL Ai ss)]) Tryz.func16 rfl rfl (Af rfl) (Hy hx Bo) (AE.subF (sL [0,1] rfl) (q4 (CB (cs:=B5 x) rfl λb1=>AL rfl (q3 (sL [1,2,4] rfl) ?_))))
 refine AL rfl (AD.nilRow 44 3 (AD.nil (q1 (q4 (AH (v:=(pP b1 2)) (AA rfl Tryz.underlying31 rfl Tryz.sizeOf29 rfl) rfl ?_)))))
 refine BI 1 (Value.slice x.c.p ss.length x.c.c) FT rfl (AH (v:=(vN ss.length)) (AF rfl Tryz.underlying29) rfl (AO rfl (AD.nil (AC.subF (sL [1,4,5,9,10,11] rfl) (AC.then_ ?_)))))
 refine AE.block ?_
 refine AE.lp4 (tg λ(i:Nat) (p1:Option Addr) (c1:Nat) (out:List T3)=>i<=ss.length/\OwnOk p1 out.length c1/\out=ED ss k i) (tg λ(i:Nat) (p1:Option Addr) (c1:Nat) (out:List T3)=>[(1,(vN k)),(4,(Value.slice none 0 0)),(9,(Value.slice x.c.p ss.length x.c.c)),(10,(vN ss.length)),(11,(vN i)),(5,(Value.slice p1 out.length c1))]) (tg λ(i:Nat) (p1:Option Addr) (c1:Nat) (out:List T3)=>[rowW p1 44 3 out.length c1 (rowsL Ai out),Ac b1 31 (B5 x),AX x.a.p (rowsL An ps),AX x.b.p (rowsL Ai ts),AX x.c.p (rowsL Ai ss)]) (tg λ(i:Nat) (p1:Option Addr) (c1:Nat) (out:List T3)=>ss.length-i) 0 none 0 ([]:List T3) (⟨Nat.zero_le _,OwnOk.none,rfl⟩) (sF rfl) sr (λi p1 c1 out hJ=>?_)
 obtain ⟨hi,ho,hou⟩:=hJ
 have hol:=Nd (ss:=ss) (k:=k) i
 rw [<-hou] at hol
 refine q4 (AH (Ag (c:=(decide (i<ss.length))) rfl rfl (DA (a:=i) (b:=ss.length))) rfl (AD.nil (q1 ?_)))
 refine AE.cond rfl (λhc0=>?_) (λhc0=>?_)
 ·replace hc0:=of_decide_eq_true hc0
  obtain ⟨sd,hsd⟩:∃q,q=ss.getD i (0,0,0):=⟨_,rfl⟩
  refine AE.skip (q1 (AE.block (q4 (AH (v:=(pP (pB x.c.p) (pO x.c.p+i*3))) (AQ (j:=i) rfl rfl x.c.ok Tryz.underlying29 Tryz.sizeOf44 rfl (by omega)) rfl (AH (v:=(aG (Ai (ss.getD i ((0,0,0):Nat×Nat×Nat))))) (AZ (vs:=Ai (ss.getD i ((0,0,0):Nat×Nat×Nat))) (i:=4) rfl rfl (BL.ne x.c.ok (by omega)) N3 (A7 Aq _ _ _ (by omega)) (Aq _)) rfl ?_)))))
  refine AD.retell (k:=14) (u:=(aG (Ai sd))) rfl (by rw [hsd]) (al UT rfl λb2=>A6 rfl Tryz.sizeOf44 rfl (q3 (sL [1,4,9,10,11,5,7] rfl) (AH (v:=(pP b2 2)) (AA rfl Tryz.underlying44 rfl Tryz.sizeOf3 rfl) rfl (BI 0 (vN sd.2.2) B_ rfl ?_))))
  refine AO rfl (AH (Bp (c:=(decide (sd.2.2=k))) rfl rfl (Pm (a:=sd.2.2) (b:=k))) rfl (AD.nil (AC.subF (sL [1,4,9,10,11,5,7,18] rfl) (AC.then_ ?_))))
  refine AE.cond rfl (λhc1=>?_) (λhc1=>?_)
  ·replace hc1:=of_decide_eq_true hc1
   refine AE.region (AO rfl (BF 0 N3 rfl (AD.openV (V:=λb3=>(Value.slice (some ⟨b3,0,none⟩) 1 1)) (T:=44) (cs:=Ai sd) (AN rfl) (Ah (z:=.agg (Ai ((0,0,0):Nat×Nat×Nat)).toArray) (cs:=Ai sd) (pv:=[(0,(aG (Ai sd)))]) Tryz.underlying29 Tryz.sizeOf44 Tryz.zeroValue44 (by decide) (by decide) rfl (KX sd)) rfl (Af rfl) λb3=>AD.append2 (j:=0) (cs2:=rowsL Ai (out++[sd])) WU rfl ho (Aj Aq _) rfl rfl rfl rfl (by decide) (HM (by omega)) (by omega) (by rw [BN];rfl) rfl λp_1 c_1 ho_1 hne_1=>AL rfl ?_)))
   refine AD.nil (AC.subF (sL [1,4,9,10,11,5,7] rfl) (AC.in_normal (AC.then_ (AE.region (AH (AT (c:=((i+1:Nat):Int)) rfl rfl (AR (a:=i) (b:=1) (by omega))) rfl ?_)))))
   refine AO rfl (AD.nil (AC.subF (sL [1,4,9,10,11,5,7] rfl) ?_))
   rw [show out.length+1=(out++[sd]).length by simp]
   exact AC.round4 (i+1) p_1 c_1 (out++[sd]) (⟨by omega,(by simpa using ho_1),by rw [hou,hsd];exact (TU hc0 (by rw [<-hsd];exact hc1)).symm⟩) (by omega) (sF rfl) (sl (sl sr))
  ·replace hc1:=of_decide_eq_false hc1
   refine AE.skip (AC.in_normal (AC.then_ (AE.region (AH (AT (c:=((i+1:Nat):Int)) rfl rfl (AR (a:=i) (b:=1) (by omega))) rfl (AO rfl ?_)))))
   exact AD.nil (AC.subF (sL [1,4,9,10,11,5,7] rfl) (AC.round4 (i+1) p1 c1 out (⟨by omega,ho,by rw [hou];exact (VE hc0 (by rw [<-hsd];exact hc1)).symm⟩) (by omega) (sF rfl) (sl sr)))
 ·replace hc0:=of_decide_eq_false hc0
  refine AE.exit (AC.then_exit (AC.round4_exit (AC.in_exit (q2 (AO rfl ?_)))))
  exact BY Tryz.call51 (OC p1 out.length c1 ho.row.le) rfl (AL rfl (AD.nil (AC.subF (sL [1,4,9,10,11,5] rfl) (AC.then_ (AE.ret (AU rfl (Am (v:=(Value.slice p1 out.length out.length)) rfl) (λw hw=>(by rw [show ED ss k ss.length=out from by rw [hou,show i=ss.length by omega]];exact Xk hw 0 rfl ho (Aj Aq _) rfl))))))))
end
section
section
variable {P:Program} {Q:Exit->Act->World->Prop} {n:Nat} {F:List (Nat×Value)} {w0:BJ} {L:List As} {c x y:Code}
end
end
section
abbrev UV (ts:List T3):List (P2×Nat):=KD ts (3*ts.length)
def Om (k:P2):P2:=(k.2,k.1)
def Ya (t:T3) (k:P2):Nat:=t.1+t.2.1+t.2.2-k.1-k.2
def ME (ts:List T3) (k:P2):P2:=(k.2,Ya (ts.getD ((Ab (UV ts) k).getD 0) (0,0,0)) k)
def isS (ts:List T3) (k:P2):Prop:=(Ab (UV ts) k).isSome=true
def UJ (ts:List T3) (k:P2):Prop:=isS ts k/\¬isS ts (Om k)
def PF (ts:List T3):Nat->P2->Option P2
  | 0,_=>none
  | f+1,k=>if (Ab (UV ts) (Om (ME ts k))).isSome then PF ts f (Om (ME ts k)) else some (ME ts k)
def Qh (ts:List T3) (k:P2):P2:=(PF ts (3*ts.length) k).getD (0,0)
section
variable {ts:List T3} {N:Nat} {k k0:P2} {i:Nat}
theorem Gf {n:Nat}:∀s,Ab (KD ts s) k=some n->∃u,u<s/\Bb ts u=k/\n=u/3
  | 0,h=>by cases h
  | s+1,h=>by
    have h:Ab (BC (KD ts s) (Bb ts s) (s/3)) k=some n:=h
    rw [Bj] at h
    split at h
    · rename_i e
      injection h with h
      exact ⟨s,by omega,e.symm,h.symm⟩
    · obtain ⟨u,h1,h2,h3⟩:=Gf s h
      exact ⟨u,by omega,h2,h3⟩
theorem Hk {u:Nat}:∀s,u<s->(Ab (KD ts s) (Bb ts u)).isSome=true
  | 0,h=>absurd h (Nat.not_lt_zero _)
  | s+1,h=>by
    show (Ab (BC (KD ts s) (Bb ts s) (s/3)) (Bb ts u)).isSome=true
    rw [Bj]
    split
    · rfl
    · rename_i e
      rcases Nat.lt_or_ge u s with h1|h1
      · exact Hk s h1
      · exact absurd (by rw [show u=s by omega]) e
theorem H2 {u v n:Nat} (ho:F2 ts n=true) (hu:u<n) (hv:v<n) (h:Bb ts u=Bb ts v):u=v:=by
  have key:∀{u v:Nat},u<v->v<n->Bb ts u=Bb ts v->False:=λ{u v} h1 h2 h=>by
    have h3:=Pi (s:=v+1) _ (by omega) ho
    have h3:(F2 ts v&&(Ab (KD ts v) (Bb ts v)).isNone)=true:=h3
    rw [Bool.and_eq_true] at h3
    have h4:=Hk (ts:=ts) v h1
    rw [h] at h4
    rw [<-Option.not_isSome,h4] at h3
    exact absurd h3.2 (by decide)
  rcases Nat.lt_trichotomy u v with h1|h1|h1
  · exact (key h1 hv h).elim
  · exact h1
  · exact (key h1 hu h.symm).elim
theorem SG {u:Nat} (ho:F2 ts (3*ts.length)=true) (hu:u<3*ts.length):Ab (UV ts) (Bb ts u)=some (u/3):=by
  obtain ⟨n,h⟩:=Option.isSome_iff_exists.1 (Hk (ts:=ts) _ hu)
  obtain ⟨v,h1,h2,h3⟩:=Gf _ h
  have e:=H2 ho hu h1 h2.symm
  rw [show Ab (UV ts) (Bb ts u)=some n from h,h3,e]
theorem Gg:isS ts k↔∃u,u<3*ts.length/\Bb ts u=k:=by
  constructor
  · intro h
    obtain ⟨n,h⟩:=Option.isSome_iff_exists.1 h
    obtain ⟨u,h1,h2,_⟩:=Gf _ h
    exact ⟨u,h1,h2⟩
  · rintro ⟨u,h1,rfl⟩
    exact Hk _ h1
def UH (u:Nat):Nat:=3*(u/3)+(u%3+1)%3
theorem Ub {u v:Nat} (h:UH u=UH v):u=v:=by unfold UH at h;omega
theorem OK {u:Nat} (h:u<3*ts.length):UH u<3*ts.length:=by unfold UH;omega
theorem MA (ho:F2 ts (3*ts.length)=true) {u:Nat} (hu:u<3*ts.length):ME ts (Bb ts u)=Bb ts (UH u):=by
  unfold ME
  rw [SG ho hu,Option.getD_some]
  have hd:(UH u)/3=u/3:=by unfold UH;omega
  have hm:(UH u)%3=(u%3+1)%3:=by unfold UH;omega
  unfold Ya Bb
  rw [hd,hm]
  generalize ts.getD (u/3) (0,0,0)=t
  have e:u%3=0\/u%3=1\/u%3=2:=by omega
  rcases e with e|e|e<;>rw [e]<;>refine Prod.ext rfl ?_
  · show t.1+t.2.1+t.2.2-t.1-t.2.1=t.2.2;omega
  · show t.1+t.2.1+t.2.2-t.2.1-t.2.2=t.1;omega
  · show t.1+t.2.1+t.2.2-t.2.2-t.1=t.2.1;omega
theorem Tj (ho:F2 ts (3*ts.length)=true) (h:isS ts k):isS ts (ME ts k):=by
  obtain ⟨u,hu,rfl⟩:=Gg.1 h
  rw [MA ho hu]
  exact Gg.2 ⟨_,OK hu,rfl⟩
theorem Vk (ho:F2 ts (3*ts.length)=true) {k':P2} (h:isS ts k) (h':isS ts k') (e:ME ts k=ME ts k'):k=k':=by
  obtain ⟨u,hu,rfl⟩:=Gg.1 h
  obtain ⟨v,hv,rfl⟩:=Gg.1 h'
  rw [MA ho hu,MA ho hv] at e
  rw [Ub (H2 ho (OK hu) (OK hv) e)]
theorem MI (k:P2):Om (Om k)=k:=rfl
theorem Uc {a b:P2} (h:Om a=Om b):a=b:=by rw [<-MI a,h,MI]
theorem K_ {α:Type} [DecidableEq α] {l m:List α} (hn:l.Nodup) (hs:∀x∈l,x∈m):l.length<=m.length:=by
  induction l generalizing m with
  | nil=>exact Nat.zero_le _
  | cons x r ih =>
    have hx:=hs x List.mem_cons_self
    have hn2:=List.nodup_cons.1 hn
    have h:=ih (m:=m.erase x) hn2.2 λy hy=>by
      have:y≠x:=λe=>hn2.1 (e▸hy)
      exact (List.mem_erase_of_ne this).2 (hs y (List.mem_cons_of_mem _ hy))
    rw [List.length_erase_of_mem hx] at h
    have:=List.length_pos_of_mem hx
    simp only [List.length_cons];omega
def SR (ts:List T3):List P2:=(List.range (3*ts.length)).map (Bb ts)
theorem N_ (h:isS ts k):k∈SR ts:=by
  obtain ⟨u,hu,rfl⟩:=Gg.1 h
  exact List.mem_map.2 ⟨u,List.mem_range.2 hu,rfl⟩
theorem Nf:(SR ts).length=3*ts.length:=by simp [SR]
structure HB (ts:List T3) (k0:P2) (i:Nat) (k:P2):Prop where
  chain:∃s:Nat->P2,s 0=k0/\s i=k/\(∀j,j<=i->isS ts (s j))/\∀j,j<i->s (j+1)=Om (ME ts (s j))
theorem HB.zero (h:isS ts k0):HB ts k0 0 k0:=⟨λ_=>k0,rfl,rfl,λ_ _=>h,λ_ h=>absurd h (Nat.not_lt_zero _)⟩
theorem HB.isS (h:HB ts k0 i k):isS ts k:=by
  obtain ⟨s,_,h2,h3,_⟩:=h.chain
  rw [<-h2];exact h3 i (Nat.le_refl _)
theorem HB.succ (h:HB ts k0 i k) (hs:(Ab (UV ts) (Om (ME ts k))).isSome=true):HB ts k0 (i+1) (Om (ME ts k)):=by
  obtain ⟨s,h1,h2,h3,h4⟩:=h.chain
  refine ⟨λj=>if j<=i then s j else Om (ME ts k),by simp [h1],if_neg (by omega),λj hj=>?_,λj hj=>?_⟩
  · show Go.Proofs.YtfbomiejpbchdaaGreat.isS ts (if j<=i then s j else _)
    split
    · exact h3 j ‹_›
    · exact hs
  · show (if j+1<=i then s (j+1) else _)=Om (ME ts (if j<=i then s j else _))
    rw [if_pos (show j<=i by omega)]
    split
    · exact h4 j (by omega)
    · rw [show j=i by omega,h2]
theorem HB.lt (ho:F2 ts (3*ts.length)=true) (h0:UJ ts k0) (h:HB ts k0 i k):i<3*ts.length:=by
  obtain ⟨s,h1,h2,h3,h4⟩:=h.chain
  have ne:∀d a,a+d+1<=i->s a≠s (a+d+1):=λd a=>by
    induction a with
    | zero =>
      intro hd e
      rw [h1,h4 (0+d) (by omega)] at e
      refine h0.2 ?_
      rw [e,MI]
      exact Tj ho (h3 _ (by omega))
    | succ a ih =>
      intro hd e
      rw [h4 a (by omega),show a+1+d+1=(a+d+1)+1 by omega,h4 (a+d+1) (by omega)] at e
      exact ih (by omega) (Vk ho (h3 _ (by omega)) (h3 _ (by omega)) (Uc e))
  have hnd:((List.range (i+1)).map s).Nodup:=by
    refine List.pairwise_map.2 (List.Pairwise.imp_of_mem ?_ List.pairwise_lt_range)
    intro a b ha hb hab
    have:=ne (b-a-1) a (by have:=List.mem_range.1 hb;omega)
    rw [show a+(b-a-1)+1=b by omega] at this
    exact this
  have h5:=K_ (m:=SR ts) hnd λx hx=>by
    obtain ⟨j,hj,rfl⟩:=List.mem_map.1 hx
    exact N_ (h3 j (by have:=List.mem_range.1 hj;omega))
  rw [Nf,List.length_map,List.length_range] at h5
  omega
theorem HB.fuel (h:HB ts k0 i k) (f:Nat):PF ts (f+i) k0=PF ts f k:=by
  obtain ⟨s,h1,h2,h3,h4⟩:=h.chain
  subst h1 h2
  have key:∀j,j<=i->PF ts (f+i) (s 0)=PF ts (f+(i-j)) (s j):=λj=>by
    induction j with
    | zero=>intro _;rfl
    | succ j ih =>
      intro hj
      rw [ih (by omega),show f+(i-j)=(f+(i-(j+1)))+1 by omega]
      have h5:(Ab (UV ts) (Om (ME ts (s j)))).isSome=true:=by rw [<-h4 j (by omega)];exact h3 (j+1) hj
      show (if _ then _ else _)=_
      rw [if_pos h5,<-h4 j (by omega)]
  have:=key i (Nat.le_refl _)
  rwa [Nat.sub_self,Nat.add_zero] at this
theorem HB.stop (ho:F2 ts (3*ts.length)=true) (h0:UJ ts k0) (h:HB ts k0 i k) (hs:¬(Ab (UV ts) (Om (ME ts k))).isSome=true):Qh ts k0=ME ts k/\UJ ts (ME ts k):=by
  have hlt:=h.lt ho h0
  have h1:=h.fuel (3*ts.length-i)
  rw [show 3*ts.length-i+i=3*ts.length by omega,show 3*ts.length-i=(3*ts.length-i-1)+1 by omega] at h1
  have h2:PF ts (3*ts.length-i-1+1) k=some (ME ts k):=by
    show (if _ then _ else _)=_
    rw [if_neg hs]
  refine ⟨?_,Tj ho h.isS,hs⟩
  unfold Qh
  rw [h1,h2];rfl
theorem VS (ho:F2 ts (3*ts.length)=true) (h0:UJ ts k0):UJ ts (Qh ts k0):=by
  have key:∀d i k,3*ts.length-i=d->HB ts k0 i k->UJ ts (Qh ts k0):=λd=>by
    induction d with
    | zero=>intro i k hd h;have:=h.lt ho h0;omega
    | succ d ih =>
      intro i k hd h
      by_cases hs:(Ab (UV ts) (Om (ME ts k))).isSome=true
      · exact ih _ _ (by omega) (h.succ hs)
      · have h1:=h.stop ho h0 hs
        rw [h1.1];exact h1.2
  exact key _ 0 k0 rfl (HB.zero h0.1)
end
def Xf (ts:List T3):Nat->List (P2×Nat)->P2->List Nat->Option (List (P2×Nat)×List Nat)
  | 0,_,_,_=>none
  | f+1,dn,k,l=>if (Ab dn k).getD 0=0 then Xf ts f (BC dn k 1) (Qh ts k) (l++[k.1]) else some (dn,l)
def YV (ts:List T3) (dn:List (P2×Nat)) (k:P2):List (P2×Nat)×List Nat:=(Xf ts (3*ts.length+1) dn k []).getD ([],[])
structure TD (ts:List T3) (dn:List (P2×Nat)):Prop where
  ok:F3 Mb dn
  bd:∀k n,Ab dn k=some n->UJ ts k/\n=1
section
variable {ts:List T3} {N:Nat} {k k0:P2} {i:Nat} {dn dn0:List (P2×Nat)} {l:List Nat}
theorem TD.nil:TD ts []:=⟨F3.nil,λk n h=>by cases h⟩
theorem TD.len (h:TD ts dn):dn.length<=3*ts.length:=by
  have h1:(dn.map (·.1)).Nodup:=List.pairwise_map.2 (h.ok.once.imp λ{a b} h e=>h e)
  have h2:=K_ (m:=SR ts) h1 λx hx=>by
    obtain ⟨p,hp,rfl⟩:=List.mem_map.1 hx
    obtain ⟨j,hj,h3⟩:=List.getElem_of_mem hp
    exact N_ (h.bd _ _ (JP (x:=p.1) (v:=p.2) h.ok.once (by rw [List.getElem?_eq_getElem hj,h3]))).1.1
  rwa [Nf,List.length_map] at h2
theorem TD.put (h:TD ts dn) (hk:UJ ts k) (hok:Mb k):TD ts (BC dn k 1):=⟨h.ok.put hok,λx n hx=>by
  rw [Bj] at hx
  split at hx
  · rename_i e
    injection hx with hx
    rw [e];exact ⟨hk,hx.symm⟩
  · exact h.bd _ _ hx⟩
theorem TD.zero (h:TD ts dn) (e:(Ab dn k).getD 0=0):Ab dn k=none:=by
  cases hg:Ab dn k with
  | none=>rfl
  | some n=>rw [hg,(h.bd _ _ hg).2] at e;cases e
theorem OH {α β:Type} [DecidableEq α] {kvs:List (α×β)} {x:α} {y:β} (h:Ab kvs x=none):(BC kvs x y).length=kvs.length+1:=by
  induction kvs with
  | nil=>rfl
  | cons p r ih =>
    obtain ⟨k,v⟩:=p
    unfold Ab at h
    split at h
    · cases h
    · rename_i e
      unfold BC
      rw [if_neg e,List.length_cons,ih h];rfl
theorem WZ (hn:Ba N ts=true) (hN:N<=4611686018427387904) (h:isS ts k):Mb k:=by
  obtain ⟨u,hu,rfl⟩:=Gg.1 h
  have:=Ma hn hu
  exact ⟨by omega,by omega⟩
structure Tk (ts:List T3) (dn0:List (P2×Nat)) (k0:P2) (i:Nat) (dn:List (P2×Nat)) (k:P2) (l:List Nat):Prop where
  fuel:∀f,Xf ts (f+i) dn0 k0 []=Xf ts f dn k l
  bd:UJ ts k
  di:TD ts dn
  len:dn.length=dn0.length+i
  ll:l.length=i
  at0:i=0->dn=dn0/\k=k0
theorem Tk.zero (h:TD ts dn0) (hb:UJ ts k0):Tk ts dn0 k0 0 dn0 k0 []:=⟨λ_=>rfl,hb,h,rfl,rfl,λ_=>⟨rfl,rfl⟩⟩
theorem Tk.succ (hn:Ba N ts=true) (hN:N<=4611686018427387904) (ho:F2 ts (3*ts.length)=true) (h:Tk ts dn0 k0 i dn k l) (e:(Ab dn k).getD 0=0):Tk ts dn0 k0 (i+1) (BC dn k 1) (Qh ts k) (l++[k.1]) :=
  ⟨λf=>by
    rw [show f+(i+1)=f+1+i by omega,h.fuel (f+1)]
    show (if _ then _ else _)=_
    rw [if_pos e],VS ho h.bd,h.di.put h.bd (WZ hn hN h.bd.1),by rw [OH (h.di.zero e),h.len];omega,by rw [List.length_append,h.ll];rfl,λh=>by omega⟩
theorem Tk.le (h:Tk ts dn0 k0 i dn k l):i<=3*ts.length:=by
  have h1:=h.di.len
  have:=h.len
  omega
theorem Tk.lt (hn:Ba N ts=true) (hN:N<=4611686018427387904) (ho:F2 ts (3*ts.length)=true) (h:Tk ts dn0 k0 i dn k l) (e:(Ab dn k).getD 0=0):i<3*ts.length:=by
  have:=(h.succ hn hN ho e).le
  omega
theorem Tk.stop (h:Tk ts dn0 k0 i dn k l) (e:¬(Ab dn k).getD 0=0):YV ts dn0 k0=(dn,l):=by
  have h1:=h.fuel (3*ts.length+1-i)
  have:=h.le
  rw [show 3*ts.length+1-i+i=3*ts.length+1 by omega,show 3*ts.length+1-i=(3*ts.length-i)+1 by omega] at h1
  have h2:Xf ts (3*ts.length-i+1) dn k l=some (dn,l):=by
    show (if _ then _ else _)=_
    rw [if_neg e]
  unfold YV
  rw [h1,h2];rfl
end
theorem T8 (l:List Nat) (b:Nat):inL (l.take b)=(inL l).take b:=by simp [inL,List.map_take]
section
variable {ts:List T3} {N i:Nat} {dn dn2:List (P2×Nat)} {wq:T3} {l:List Nat}
end
end
end Go.Proofs.YtfbomiejpbchdaaGreat
