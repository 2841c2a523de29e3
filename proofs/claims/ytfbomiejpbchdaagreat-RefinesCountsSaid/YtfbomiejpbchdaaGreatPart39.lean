import Derived.WideLaws
import Derived.Shelf.SlSortCmp.Whole1
import Derived.Test.YtfbomiejpbchdaaGreatPart06
import Derived.Test.YtfbomiejpbchdaaGreatPart28
import Derived.Test.YtfbomiejpbchdaaGreatPart30
import Derived.Test.YtfbomiejpbchdaaGreatPart36
import Derived.Test.YtfbomiejpbchdaaGreatPart37
import Derived.Test.YtfbomiejpbchdaaGreatPart38
namespace Go.Proofs.YtfbomiejpbchdaaGreat
open Go Go.RowKit
set_option linter.unusedVariables false
set_option linter.unusedSimpArgs false
section
section
variable {P:Program} {n:Nat} {F:List (Nat×Value)} {w0:BJ} {L:List As} {x y:Operand} {d:Option Tmp} {t:TypeId} {p:String} {af:Array Edge} {g:Option (Nat×Bool)}
theorem CI {cs:List Value} {s e nn:Nat} {ki:IntKind} {j:Nat} {v:Value} (hx:evF F x=some (aG cs)) (hy:evF F y=some (.int ki ((j:Nat):Int))) (hu:P.underlying s=some (.array nn e)) (hsz:∀w,(sizeOf e).run P w=.ok 1 w) (hg:∀w,(isAgg e).run P w=.ok false w) (hj:j<nn) (hv:cs[j]?=some v) :
    Ex P n F w0 L ⟨d,.index s x y,t,p,af,g⟩ v:=λA w ha _=>by
  simp [execOp,ha.ev hx,ha.ev hy,Instr.index,asIntOf,run_underlying hu,hsz,hg,hj,hv,part]
end
def B8 (ts:List T3):Nat->List (Nat×Nat)
  | 0=>[]
  | s+1=>BC (B8 ts s) (CP (ts.getD (s/3) (0,0,0)) (s%3)) ((Ab (B8 ts s) (CP (ts.getD (s/3) (0,0,0)) (s%3))).getD 0+1)
theorem Ia {ts:List T3} {t r:Nat} (hr:r<3):BC (B8 ts (3*t+r)) (CP (ts.getD t (0,0,0)) r) ((Ab (B8 ts (3*t+r)) (CP (ts.getD t (0,0,0)) r)).getD 0+1)=B8 ts (3*t+r+1):=by
  show _=BC (B8 ts (3*t+r)) (CP (ts.getD ((3*t+r)/3) (0,0,0)) ((3*t+r)%3)) ((Ab (B8 ts (3*t+r)) (CP (ts.getD ((3*t+r)/3) (0,0,0)) ((3*t+r)%3))).getD 0+1)
  rw [show (3*t+r)/3=t by omega,show (3*t+r)%3=r by omega]
theorem HQ {ts:List T3}:∀s k,(Ab (B8 ts s) k).getD 0<=s
  | 0,k=>Nat.zero_le _
  | s+1,k=>by
    show (Ab (BC _ _ _) k).getD 0<=_
    rw [Bj];split
    · have:=HQ (ts:=ts) s (CP (ts.getD (s/3) (0,0,0)) (s%3));show _+1<=_;omega
    · exact Nat.le_trans (HQ s k) (by omega)
theorem Qw {kvs:List (Nat×Nat)} {x y:Nat}:(BC kvs x y).length<=kvs.length+1:=by
  induction kvs with
  | nil=>exact Nat.le_refl _
  | cons p r ih=>obtain ⟨k,v⟩:=p;unfold BC;split<;>simp only [List.length_cons]<;>omega
theorem Jo {ts:List T3}:∀s,(B8 ts s).length<=s
  | 0=>Nat.le_refl _
  | s+1=>Nat.le_trans Qw (by have:=Jo (ts:=ts) s;omega)
theorem Ew {ts:List T3} {N:Nat} (hn:Ba N ts=true) (hN:N<=4611686018427387904):∀s,s<=3*ts.length->F3 Sv (B8 ts s)
  | 0,_=>⟨λp hp=>(by cases hp),List.Pairwise.nil⟩
  | s+1,h=>(Ew hn hN s (by omega)).put (by
    obtain ⟨g1,g2,g3⟩:=DE (DN hn (show s/3<ts.length by omega))
    show CP _ _<_
    unfold CP;split
    · omega
    · split<;>omega)
def HD (ts:List T3):Int:=((B8 ts (3*ts.length)).length:Int)-(A_ ts).length+ts.length
end
section
set_option maxRecDepth 100000
theorem El:Ji Tryz.prog 3 vN Sv:=WP Tryz.underlying3
set_option maxHeartbeats 1000000 in
theorem Rm {ps:List Pt} {ts ss:List T3} (x:MX ps ts ss) (hnb:Ba ps.length ts=true) (hp:ps.length<=1000000) (htl:ts.length<=1000000) (w:World) {S:Nat->Prop} (hx:Ro S w x):Calls Tryz.prog 50 #[(aG (B5 x))] w (Ax w (vI (HD ts))):=by
 have hel0:=MH ts
 have hcl0:=Jo (ts:=ts) (3*ts.length)
 have lx:=H0 (W:=w) hx
 refine BQ (args:=[(aG (B5 x))]) (L:=[AX x.a.p (rowsL An ps),AX x.b.p (rowsL Ai ts),AX x.c.p (rowsL Ai ss)]) Tryz.func50 rfl rfl (Af rfl) (Hy hx Bo) (AE.subF (sL [0] rfl) (q4 (CB (cs:=B5 x) rfl λb1=>AL rfl (q6 (sL [1,2] rfl) ?_))))
 refine q4 (BF 0 DW rfl (IC (args:=[(aG (B5 x))]) (v:=(Value.bool true)) Tryz.call46 (λw hw=>(by have h9:=JL x (by omega) w (Eu hw 1 rfl lx);rw [hnb] at h9;exact h9)) rfl (AH (CR (c:=false) rfl rfl) rfl (AD.nil (AC.subF (sL [1,2,10] rfl) ?_)))))
 refine AC.then_ (AE.cond_false rfl (AE.skip (q2 (AD.makeMap vN vN (AN rfl) rfl λb2=>AL rfl ?_))))
 refine q6 (sL [1,2,3] rfl) (q4 (AH (v:=(pP b1 1)) (AA rfl Tryz.underlying31 rfl Tryz.sizeOf28 rfl) rfl (BI 1 (Value.slice x.b.p ts.length x.b.c) Di rfl (AH (v:=(vN ts.length)) (AF rfl Tryz.underlying28) rfl (AO rfl ?_)))))
 refine AD.nil (AC.subF (sL [1,2,3,13,14,15] rfl) (AC.then_ (AE.block ?_)))
 refine AE.lp1 (tg λ(t:Nat)=>t<=ts.length) (tg λ(t:Nat)=>[(1,(pP b1 0)),(2,(vI 0)),(3,(Value.map (some b2))),(13,(Value.slice x.b.p ts.length x.b.c)),(14,(vN ts.length)),(15,(vN t))]) (tg λ(t:Nat)=>[Br b2 vN vN (B8 ts (3*t+0)),Ac b1 31 (B5 x),AX x.a.p (rowsL An ps),AX x.b.p (rowsL Ai ts),AX x.c.p (rowsL Ai ss)]) (tg λ(t:Nat)=>ts.length-t) 0 (Nat.zero_le _) (sF rfl) sr (λt hJ=>?_)
 have ht:=hJ
 refine q4 (AH (Ag (c:=(decide (t<ts.length))) rfl rfl (DA (a:=t) (b:=ts.length))) rfl (AD.nil (q1 ?_)))
 refine AE.cond rfl (λhc1=>?_) (λhc1=>?_)
 ·replace hc1:=of_decide_eq_true hc1
  obtain ⟨T,hT⟩:∃q,q=ts.getD t (0,0,0):=⟨_,rfl⟩
  obtain ⟨g1,g2,g3⟩:=DE (DN hnb hc1)
  rw [<-hT] at g1 g2 g3
  refine AE.skip (q1 (AE.block (q4 (AH (v:=(pP (pB x.b.p) (pO x.b.p+t*3))) (AQ (j:=t) rfl rfl x.b.ok Tryz.underlying28 Tryz.sizeOf76 rfl (by omega)) rfl (AH (v:=(aG (Ai (ts.getD t ((0,0,0):Nat×Nat×Nat))))) (AZ (vs:=Ai (ts.getD t ((0,0,0):Nat×Nat×Nat))) (i:=3) rfl rfl (BL.ne x.b.ok (by omega)) Hs (A7 Aq _ _ _ (by omega)) (Aq _)) rfl ?_)))))
  refine AD.retell (k:=18) (u:=(aG (Ai T))) rfl (by rw [hT]) (al QZ rfl λb3=>A6 rfl Tryz.sizeOf76 rfl (q3 (sL [1,2,3,13,14,15,5] rfl) (BF 0 Hs rfl (AO rfl ?_))))
  refine AD.nil (AC.then_ (AE.block (AE.unroll 4 (F1.step (q4 ?_)))))
  refine AH (Ag (c:=true) rfl rfl (by decide)) rfl (AD.nil (q1 (AE.cond_true rfl (AE.skip (q1 ?_)))))
  refine AE.block (q4 (AH (v:=(vN T.1)) (CI (j:=0) rfl rfl Tryz.underlying76 Tryz.sizeOf3 Tryz.isAgg3 (by decide) rfl) rfl (AL rfl (AD.nil (AC.subF (sL [1,2,3,13,14,15,5,19,20,7] rfl) ?_)))))
  refine AC.then_ (AE.region (AO rfl (AO rfl (AH (v:=(vN ((Ab (B8 ts (3*t+0)) T.1).getD 0))) (Bi El 1 (eV:=vN) (kvs:=B8 ts (3*t+0)) (x:=T.1) (z0:=0) (co:=false) rfl rfl Tryz.underlying207 Tryz.zeroValue3 rfl (Ew hnb (by omega) _ (by omega)) (by show (_:Nat)<_;omega)) rfl ?_))))
  have hle0:=HQ (ts:=ts) (3*t+0) T.1
  refine AH (AT (c:=((((Ab (B8 ts (3*t+0)) T.1).getD 0)+1:Nat):Int)) rfl rfl (AR (a:=(Ab (B8 ts (3*t+0)) T.1).getD 0) (b:=1) (by omega))) rfl (AD.mapUpdate El 1 (kvs:=B8 ts (3*t+0)) (x:=T.1) (y:=((Ab (B8 ts (3*t+0)) T.1).getD 0)+1) (AN rfl) rfl rfl rfl Tryz.underlying207 rfl (Ew hnb (by omega) _ (by omega)) (by show (_:Nat)<_;omega) ?_)
  rw [show BC (B8 ts (3*t+0)) T.1 (((Ab (B8 ts (3*t+0)) T.1).getD 0)+1)=B8 ts (3*t+1) from by rw [hT];exact Ia (by omega)]
  refine AD.nil (AC.subF (sL [1,2,3,13,14,15,5,19,20] rfl) (AC.in_normal (AC.then_ (AE.region (AH (AT (c:=(1:Int)) rfl rfl (by decide)) rfl ?_)))))
  refine AO rfl (AD.nil (AC.subF (sL [1,2,3,13,14,15,5,19,20] rfl) (AC.again (F1.step (q4 ?_)))))
  refine AH (Ag (c:=true) rfl rfl (by decide)) rfl (AD.nil (q1 (AE.cond_true rfl (AE.skip (q1 ?_)))))
  refine AE.block (q4 (AH (v:=(vN T.2.1)) (CI (j:=1) rfl rfl Tryz.underlying76 Tryz.sizeOf3 Tryz.isAgg3 (by decide) rfl) rfl (AL rfl (AD.nil (AC.subF (sL [1,2,3,13,14,15,5,19,20,7] rfl) ?_)))))
  refine AC.then_ (AE.region (AO rfl (AO rfl (AH (v:=(vN ((Ab (B8 ts (3*t+1)) T.2.1).getD 0))) (Bi El 1 (eV:=vN) (kvs:=B8 ts (3*t+1)) (x:=T.2.1) (z0:=0) (co:=false) rfl rfl Tryz.underlying207 Tryz.zeroValue3 rfl (Ew hnb (by omega) _ (by omega)) (by show (_:Nat)<_;omega)) rfl ?_))))
  have hle1:=HQ (ts:=ts) (3*t+1) T.2.1
  refine AH (AT (c:=((((Ab (B8 ts (3*t+1)) T.2.1).getD 0)+1:Nat):Int)) rfl rfl (AR (a:=(Ab (B8 ts (3*t+1)) T.2.1).getD 0) (b:=1) (by omega))) rfl (AD.mapUpdate El 1 (kvs:=B8 ts (3*t+1)) (x:=T.2.1) (y:=((Ab (B8 ts (3*t+1)) T.2.1).getD 0)+1) (AN rfl) rfl rfl rfl Tryz.underlying207 rfl (Ew hnb (by omega) _ (by omega)) (by show (_:Nat)<_;omega) ?_)
  rw [show BC (B8 ts (3*t+1)) T.2.1 (((Ab (B8 ts (3*t+1)) T.2.1).getD 0)+1)=B8 ts (3*t+2) from by rw [hT];exact Ia (by omega)]
  refine AD.nil (AC.subF (sL [1,2,3,13,14,15,5,19,20] rfl) (AC.in_normal (AC.then_ (AE.region (AH (AT (c:=(2:Int)) rfl rfl (by decide)) rfl ?_)))))
  refine AO rfl (AD.nil (AC.subF (sL [1,2,3,13,14,15,5,19,20] rfl) (AC.again (F1.step (q4 ?_)))))
  refine AH (Ag (c:=true) rfl rfl (by decide)) rfl (AD.nil (q1 (AE.cond_true rfl (AE.skip (q1 ?_)))))
  refine AE.block (q4 (AH (v:=(vN T.2.2)) (CI (j:=2) rfl rfl Tryz.underlying76 Tryz.sizeOf3 Tryz.isAgg3 (by decide) rfl) rfl (AL rfl (AD.nil (AC.subF (sL [1,2,3,13,14,15,5,19,20,7] rfl) ?_)))))
  refine AC.then_ (AE.region (AO rfl (AO rfl (AH (v:=(vN ((Ab (B8 ts (3*t+2)) T.2.2).getD 0))) (Bi El 1 (eV:=vN) (kvs:=B8 ts (3*t+2)) (x:=T.2.2) (z0:=0) (co:=false) rfl rfl Tryz.underlying207 Tryz.zeroValue3 rfl (Ew hnb (by omega) _ (by omega)) (by show (_:Nat)<_;omega)) rfl ?_))))
  have hle2:=HQ (ts:=ts) (3*t+2) T.2.2
  refine AH (AT (c:=((((Ab (B8 ts (3*t+2)) T.2.2).getD 0)+1:Nat):Int)) rfl rfl (AR (a:=(Ab (B8 ts (3*t+2)) T.2.2).getD 0) (b:=1) (by omega))) rfl (AD.mapUpdate El 1 (kvs:=B8 ts (3*t+2)) (x:=T.2.2) (y:=((Ab (B8 ts (3*t+2)) T.2.2).getD 0)+1) (AN rfl) rfl rfl rfl Tryz.underlying207 rfl (Ew hnb (by omega) _ (by omega)) (by show (_:Nat)<_;omega) ?_)
  rw [show BC (B8 ts (3*t+2)) T.2.2 (((Ab (B8 ts (3*t+2)) T.2.2).getD 0)+1)=B8 ts (3*t+3) from by rw [hT];exact Ia (by omega)]
  refine AD.nil (AC.subF (sL [1,2,3,13,14,15,5,19,20] rfl) (AC.in_normal (AC.then_ (AE.region (AH (AT (c:=(3:Int)) rfl rfl (by decide)) rfl ?_)))))
  refine AO rfl (AD.nil (AC.subF (sL [1,2,3,13,14,15,5,19,20] rfl) (AC.again (F1.step (q4 ?_)))))
  refine AH (Ag (c:=false) rfl rfl (by decide)) rfl (AD.nil (q1 (AE.cond_false rfl (AE.exit (AC.then_exit ?_)))))
  refine AC.then_exit (AC.in_exit (AC.in_normal (AC.then_ (AE.region (AH (AT (c:=((t+1:Nat):Int)) rfl rfl (AR (a:=t) (b:=1) (by omega))) rfl ?_)))))
  refine AO rfl (AD.nil (AC.subF (sL [1,2,3,13,14,15,5,19,20] rfl) ?_))
  rw [show 3*t+3=3*(t+1)+0 by omega]
  exact AC.round1 (t+1) (by omega) (by omega) (sF rfl) (sl sr)
 ·replace hc1:=of_decide_eq_false hc1
  rw [show B8 ts (3*t+0)=B8 ts (3*ts.length) by rw [show 3*t+0=3*ts.length by omega]]
  refine AE.exit (AC.then_exit (AC.round1_exit (AC.in_exit (q1 (C7 [(0,true),(1,true),(2,true),(6,true),(7,true),(8,true),(3,false),(4,true),(5,true),(9,true),(10,true)] sr ?_)))))
  refine Bl rfl (Au (v:=(vN ((B8 ts (3*ts.length)).length))) rfl (KF 0 rfl Tryz.underlying207 rfl) (Db 1 DW rfl (Au (v:=(pP b1 1)) rfl (AA rfl Tryz.underlying31 rfl Tryz.sizeOf28 rfl) (Bk 1 (Value.slice x.b.p ts.length x.b.c) Di rfl (Au (v:=(vN ts.length)) rfl (AF rfl Tryz.underlying28) ?_)))))
  refine AP.imp rfl (cX (S:=S) (cs:=rowsL B4 (A_ ts)) (k:=(A_ ts).length) (args:=[(aG (B5 x))]) Tryz.call13 (λw hw=>HR x (by omega) (by omega) hnb w (Eu hw 2 rfl lx)) rfl rfl rfl λo lo=>AP.back (sl sr) (Au (v:=(vN ((A_ ts).length))) rfl (AF rfl Tryz.underlying37) (Au rfl (Bf (c:=((((B8 ts (3*ts.length)).length:Nat):Int)-((A_ ts).length:Nat))) rfl rfl (BE (by omega) (by omega))) (Au rfl (AT (c:=(HD ts)) rfl rfl (by unfold HD;exact BE (by omega) (by omega))) ?_))))
  exact E5 rfl (AP.nil (AC.subF (sL [1,2,3,13,14,15] rfl) (AC.then_ (AE.ret (AU rfl (Am (v:=(vI (HD ts))) rfl) (λw hw=>⟨rfl,hw.out⟩))))))
end
section
set_option maxRecDepth 100000
end
section
structure RI where
  l:List Nat
  p:Option Addr
  c:Nat
  ok:BL p l.length c
  sm:l.length<=10000000
instance:Inhabited RI:=⟨⟨[],none,0,OwnOk.none.row,by decide⟩⟩
def Yj (x:RI):Value:=.slice x.p x.l.length x.c
def YL (x:RI):As:=AX x.p (inL x.l)
def Yt (rs:List RI):List As:=rs.map YL
def Yo (rs:List RI):List Value:=rs.map Yj
section
variable {P:Program} {ops:Array Oper} {rest:List Oper} {Q:Exit->Act->World->Prop} {n:Nat} {F:List (Nat×Value)} {w0:BJ} {L L2:List As}
theorem AD.permL (hp:L.Perm L2) (next:AD P ops rest Q n F w0 L2):AD P ops rest Q n F w0 L:=λa w ha hW=>next a w ha (hW.perm hp)
end
def XW (w:World) (Ac:Nat) (x:RI):Prop:=Go.Proofs.YtfbomiejpbchdaaGreat.Holds w (YL x)/\∀b,(YL x).foot=some b->Ac≠b
instance goodInh (w:World) (Ac:Nat):Inhabited {x:RI // XW w Ac x}:=⟨⟨default,(λb e=>by cases e),(λb e=>by cases e)⟩⟩
structure Yi (ls:List (List Nat)) where
  rs:List RI
  e:rs.map (·.l)=ls
  q:RX (Yo rs) rs.length
instance {ls:List (List Nat)}:Dx (Yi ls):=⟨λx=>x.q.val,λx=>x.q.row::Yt x.rs,λx y hy=>by
  rcases List.mem_cons.1 hy with rfl|hy
  · rfl
  · obtain ⟨r,_,rfl⟩:=List.mem_map.1 hy;rfl⟩
end
section
set_option maxRecDepth 100000
end
section
structure RO where
  p:Option Addr
  c:Nat
  l:List Nat
  ok:OwnOk p l.length c
abbrev L8:RO:=⟨none,0,[],OwnOk.none⟩
@[reducible] def IR (x:RO):Value:=.slice x.p x.l.length x.c
def RV (T:Nat) (x:RO):As:=rowW x.p T 1 x.l.length x.c (inL x.l)
def X9 (x:RO):As:=AX x.p (inL x.l)
def Pv (T:Nat) (kvs:List (Nat×RO)):List As:=kvs.map λkv=>RV T kv.2
def TN (T:Nat) (kvs:List (Nat×RO)) (k:Nat):List As:=Pv T (kvs.filter λkv=>decide (kv.1≠k))
def RW (kvs:List (Nat×RO)):List As:=kvs.map λkv=>X9 kv.2
def RT (kvs:List (Nat×RO)):List (Nat×List Nat):=kvs.map λkv=>(kv.1,kv.2.l)
section
variable {kvs:List (Nat×RO)} {k T:Nat} {s:RO}
theorem Qx {β:Type} {kvs:List (Nat×β)} {k:Nat} {s:β} (h:Ab kvs k=some s):(k,s)∈kvs:=by
  induction kvs with
  | nil=>cases h
  | cons x r ih =>
    obtain ⟨a,b⟩:=x
    unfold Ab at h
    split at h
    · rename_i e
      injection h with h
      subst e h
      exact List.mem_cons_self
    · exact List.mem_cons_of_mem _ (ih h)
theorem TT:Ab (RT kvs) k=(Ab kvs k).map (·.l):=by
  induction kvs with
  | nil=>rfl
  | cons x r ih =>
    obtain ⟨a,b⟩:=x
    show Ab ((a,b.l)::RT r) k=(Ab ((a,b)::r) k).map (·.l)
    unfold Ab
    split
    · rfl
    · exact ih
theorem J7 {kvs:List (Nat×RO)} {k:Nat}:(Ab (RT kvs) k).getD []=((Ab kvs k).getD L8).l:=by
  rw [TT]
  cases Ab kvs k<;>rfl
theorem Ke:RT (BC kvs k s)=BC (RT kvs) k s.l:=by
  induction kvs with
  | nil=>rfl
  | cons x r ih =>
    obtain ⟨a,b⟩:=x
    show RT (BC ((a,b)::r) k s)=BC ((a,b.l)::RT r) k s.l
    unfold BC
    split
    · rfl
    · show (a,b.l)::RT (BC r k s)=_
      rw [ih]
theorem SW (h:Ab kvs k=none):TN T kvs k=Pv T kvs:=by
  unfold TN
  congr 1
  induction kvs with
  | nil=>rfl
  | cons x r ih =>
    obtain ⟨a,b⟩:=x
    unfold Ab at h
    split at h
    · cases h
    · rename_i e
      rw [List.filter_cons,if_pos (by simpa using λe2=>e e2.symm),ih h]
theorem roO_some (hm:F3 Sv kvs) (h:Ab kvs k=some s):(Pv T kvs).Perm (RV T s::TN T kvs k):=by
  have ho:=hm.once
  clear hm
  induction kvs with
  | nil=>cases h
  | cons x r ih =>
    obtain ⟨a,b⟩:=x
    obtain ⟨h1,h2⟩:=List.pairwise_cons.1 ho
    unfold Ab at h
    unfold TN at ih ⊢
    rw [List.filter_cons]
    split at h
    · rename_i e
      subst e
      injection h with h
      subst h
      rw [if_neg (by simp)]
      have e:(r.filter λkv=>decide (kv.1≠k))=r:=List.filter_eq_self.2 λy hy=>decide_eq_true λe=>h1 y hy e.symm
      rw [e];exact List.Perm.refl _
    · rename_i e
      rw [if_pos (by simpa using λe2=>e e2.symm)]
      exact ((ih h h2).cons (RV T b)).trans (List.Perm.swap _ _ _)
theorem put_perm (hm:F3 Sv kvs):(Pv T (BC kvs k s)).Perm (RV T s::TN T kvs k):=by
  have ho:=hm.once
  clear hm
  induction kvs with
  | nil=>exact List.Perm.refl _
  | cons x r ih =>
    obtain ⟨a,b⟩:=x
    obtain ⟨h1,h2⟩:=List.pairwise_cons.1 ho
    unfold BC
    unfold TN at ih ⊢
    rw [List.filter_cons]
    split
    · rename_i e
      subst e
      rw [if_neg (by simp)]
      have e:(r.filter λkv=>decide (kv.1≠k))=r:=List.filter_eq_self.2 λy hy=>decide_eq_true λe=>h1 y hy e.symm
      rw [e];exact List.Perm.refl _
    · rename_i e
      rw [if_pos (by simpa using λe2=>e e2.symm)]
      exact ((ih h2).cons (RV T b)).trans (List.Perm.swap _ _ _)
theorem L4 {A1 A2:List As} (hm:F3 Sv kvs):(A1++RV T s::(A2++TN T kvs k)).Perm (A1++(A2++Pv T (BC kvs k s))):=by
  refine (List.Perm.refl A1).append ?_
  have h1:(RV T s::(A2++TN T kvs k)).Perm (A2++RV T s::TN T kvs k):=List.perm_middle.symm
  exact h1.trans ((List.Perm.refl A2).append (put_perm hm).symm)
end
section
variable {P:Program} {ops:Array Oper} {rest:List Oper} {Q:Exit->Act->World->Prop} {n:Nat} {F:List (Nat×Value)} {w0:BJ} {L A:List As} {kvs:List (Nat×RO)} {k T:Nat}
theorem AD.pullRO (hm:F3 Sv kvs) {sq:RO} (hs:sq=(Ab kvs k).getD L8) (next:AD P ops rest Q n F w0 (RV T sq::(A++TN T kvs k))):AD P ops rest Q n F w0 (A++Pv T kvs):=by
  cases hg:Ab kvs k with
  | none =>
    rw [hg] at hs
    rw [SW hg] at next
    subst hs
    exact AD.nilRow T 1 next
  | some s =>
    have hs:sq=s:=by rw [hg] at hs;exact hs
    subst hs
    refine AD.permL ?_ next
    have h1:(A++Pv T kvs).Perm (A++RV T sq::TN T kvs k):=(List.Perm.refl A).append (roO_some hm hg)
    exact h1.trans List.perm_middle
theorem BK.frzRO {w:World} (h:BK w0 w (A++Pv T kvs)):BK w0 w (A++RW kvs):=by
  obtain ⟨h1,h2,h3⟩:=h
  refine ⟨h1,λx hx b e=>?_,?_⟩
  · rcases List.mem_append.1 hx with hx|hx
    · exact h2 x (List.mem_append_left _ hx) b e
    · obtain ⟨kv,hkv,rfl⟩:=List.mem_map.1 hx
      obtain ⟨_,o,ho,hp⟩:=h2 (RV T kv.2) (List.mem_append_right _ (List.mem_map.2 ⟨kv,hkv,rfl⟩)) b e
      exact ⟨.inl rfl,o,ho,Cl kv.2.ok (by rw [CY,Nat.mul_one]) hp⟩
  · obtain ⟨p1,p2,p3⟩:=List.pairwise_append.1 h3
    refine List.pairwise_append.2 ⟨p1,?_,λx hx y hy=>?_⟩
    · unfold RW
      unfold Pv at p2
      rw [List.pairwise_map] at p2 ⊢
      exact p2.imp λ{a b} h=>h.elim (λk=>by cases k.1) (λk=>.inr k)
    · obtain ⟨kv,hkv,rfl⟩:=List.mem_map.1 hy
      rcases p3 x hx (RV T kv.2) (List.mem_map.2 ⟨kv,hkv,rfl⟩) with k|k
      · cases k.2
      · exact .inr k
theorem AD.frzRO (next:AD P ops rest Q n F w0 (A++RW kvs)):AD P ops rest Q n F w0 (A++Pv T kvs):=λa w ha hW=>next a w ha (BK.frzRO hW)
theorem AD.dupRO {sq:RO} (hs:sq=(Ab kvs k).getD L8) (next:AD P ops rest Q n F w0 (X9 sq::(A++RW kvs))):AD P ops rest Q n F w0 (A++RW kvs):=λa w ha hW=>by
  refine next a w ha ?_
  cases hg:Ab kvs k with
  | none=>rw [hg] at hs;subst hs;exact hW.addRo (Em.refl _ _) rfl (λb e=>by cases e) (λb e=>by cases e)
  | some s =>
    have hs:sq=s:=by rw [hg] at hs;exact hs
    subst hs
    have hmm:(k,sq)∈kvs:=Qx hg
    have hm:X9 sq∈A++RW kvs:=List.mem_append_right _ (List.mem_map.2 ⟨(k,sq),hmm,rfl⟩)
    exact hW.addRo (Em.refl _ _) rfl (λb e=>(hW.2.1 _ hm b e).2) (λb e=>.inr ⟨_,hm,rfl,e⟩)
theorem AD.shrink (i:Nat) {q:Option Addr} {z m m' c:Nat} {cs:List Value} (hi:L[i]?=some (rowW q T z m c cs)) (hm:m'<=m) {L':List As} (hs:L_ L i (rowW q T z m' c (cs.take (m'*z)))=some L') (next:AD P ops rest Q n F w0 L'):AD P ops rest Q n F w0 L:=λa w ha hW=>by
  refine next a w ha (Fp hs▸hW.freeze hi rfl (λo hp=>?_) (λe=>by cases e))
  obtain ⟨cur,rfl,h1,h2⟩:=hp
  refine ⟨cur,rfl,h1,?_⟩
  have hz:m'*z<=m*z:=Nat.mul_le_mul_right _ hm
  rw [<-h2,List.take_take,Nat.min_eq_left hz]
end
section
variable {P:Program} {ops:Array Oper} {rest:List Oper} {Q:Exit->Act->World->Prop} {n d i z m c c2:Nat} {F:List (Nat×Value)} {w0:BJ} {L:List As} {t ty T:TypeId} {p:String} {af:Array Edge} {x y:Operand} {cs vs cs':List Value} {q:Option Addr} {v u:Value} {A0 A1 A2 A3 A4:As}
theorem AD.storeRow4 {j n':Nat} (hx:evF F x=some (pP (pB q) (pO q+j*1))) (hy:evF F y=some v) (ho:OwnOk q n' c) (hcl:cs.length=n'*1) (hj:j<n')
    (hv:v.cells=#[v]) (hs:∀w,(sizeOf ty).run P w=.ok 1 w) (h1:v.oneCell'=true) (hc:cs.set j v=cs') (next:AD P ops rest Q n F w0 (A0::A1::A2::A3::rowW q T 1 n' c cs'::L)):AD P ops (⟨none,.store ty x y,t,p,af,none⟩::rest) Q n F w0 (A0::A1::A2::A3::rowW q T 1 n' c cs::L):=by
  subst hc
  rw [<-HX (by omega)] at next
  exact AD.storeRow 4 (vs:=[v]) hx hy rfl ho hcl (ho.row.ne (by omega)) hv hs (by simp [h1]) (by simp;omega) next
end
section
variable {P:Program} {ops:Array Oper} {rest:List Oper} {Q:Exit->Act->World->Prop} {n:Nat} {F:List (Nat×Value)} {w0:BJ} {L:List As} {d:Option Tmp} {op:Op} {t:TypeId} {p:String} {af:Array Edge} {g:Nat×Bool}
theorem AD.unguard (hw:Wt ops n F ⟨d,op,t,p,af,some g⟩) (next:AD P ops (⟨d,op,t,p,af,none⟩::rest) Q n F w0 L):AD P ops (⟨d,op,t,p,af,some g⟩::rest) Q n F w0 L:=λa w ha hW=>by
  have h:=next a w ha hW
  unfold wpList at h ⊢
  rw [if_pos (hw a ha)]
  rw [if_pos (AN rfl a ha)] at h
  exact h
end
theorem OwnOk.less {p:Option Addr} {n n' c:Nat} (h:OwnOk p n c) (hn:n'<=n):OwnOk p n' c:=⟨λe=>⟨by have:=(h.nil e).1;omega,(h.nil e).2⟩,h.at0,Nat.le_trans hn h.le,h.max⟩
def Vx (ts:List T3) (s:Nat):Nat:=CP (ts.getD (s/3) (0,0,0)) (s%3)
def RZ (ts:List T3):Nat->List (Nat×List Nat)
  | 0=>[]
  | s+1=>BC (RZ ts s) (Vx ts s) ((Ab (RZ ts s) (Vx ts s)).getD []++[s/3])
def JM (ts:List T3) (p:Nat):List Nat:=(Ab (RZ ts (3*ts.length)) p).getD []
section
variable {ts:List T3} {N:Nat}
theorem FR {l:List Nat} {j:Nat} (h:j<l.length):l.getD j 0∈l:=by rw [List.getD,List.getElem?_eq_getElem h];exact List.getElem_mem h
theorem Mp {p o:Nat}:∀s,o∈(Ab (RZ ts s) p).getD []↔∃u,u<s/\Vx ts u=p/\u/3=o
  | 0=>⟨λh=>(by cases h),λ⟨u,h,_⟩=>absurd h (Nat.not_lt_zero _)⟩
  | s+1=>by
    show o∈(Ab (BC _ _ _) p).getD []↔_
    rw [Bj]
    split
    · rename_i e
      rw [Option.getD_some,List.mem_append,List.mem_singleton,<-e,Mp s]
      constructor
      · rintro (⟨u,h1,h2,h3⟩|h)
        · exact ⟨u,by omega,h2,h3⟩
        · exact ⟨s,by omega,e.symm,h.symm⟩
      · rintro ⟨u,h1,h2,h3⟩
        rcases Nat.lt_or_ge u s with h4|h4
        · exact .inl ⟨u,h4,h2,h3⟩
        · exact .inr (by rw [<-h3,show u=s by omega])
    · rename_i e
      rw [Mp s]
      constructor
      · rintro ⟨u,h1,h2,h3⟩;exact ⟨u,by omega,h2,h3⟩
      · rintro ⟨u,h1,h2,h3⟩
        refine ⟨u,?_,h2,h3⟩
        rcases Nat.lt_or_ge u s with h4|h4
        · exact h4
        · exact absurd (by rw [<-h2,show u=s by omega]) e
theorem Fe {p o:Nat}:o∈JM ts p↔o<ts.length/\∃r,r<3/\CP (ts.getD o (0,0,0)) r=p:=by
  unfold JM
  rw [Mp]
  constructor
  · rintro ⟨u,h1,h2,rfl⟩;exact ⟨by omega,u%3,by omega,h2⟩
  · rintro ⟨h1,r,h2,h3⟩
    refine ⟨3*o+r,by omega,?_,by omega⟩
    unfold Vx
    rw [show (3*o+r)/3=o by omega,show (3*o+r)%3=r by omega];exact h3
theorem GZ {p:Nat}:∀s,((Ab (RZ ts s) p).getD []).length<=s
  | 0=>Nat.le_refl _
  | s+1=>by
    show ((Ab (BC _ _ _) p).getD []).length<=_
    rw [Bj]
    split
    · rw [Option.getD_some,List.length_append];have:=GZ (p:=Vx ts s) s;show _+1<=_;omega
    · have:=GZ (p:=p) s;omega
theorem Mi (p:Nat):(JM ts p).length<=3*ts.length:=GZ _
theorem J6 {t r:Nat} (hr:r<3):RZ ts (3*t+r+1)=BC (RZ ts (3*t+r)) (CP (ts.getD t (0,0,0)) r) ((Ab (RZ ts (3*t+r)) (CP (ts.getD t (0,0,0)) r)).getD []++[t]):=by
  show BC _ _ _=_
  unfold Vx
  rw [show (3*t+r)/3=t by omega,show (3*t+r)%3=r by omega]
def OD (ts:List T3) (i j:Nat):Prop:=∃r s,r<3/\s<3/\CP (ts.getD i (0,0,0)) r=CP (ts.getD j (0,0,0)) s
theorem OD.symm {i j:Nat} (h:OD ts i j):OD ts j i:=by obtain ⟨r,s,a,b,c⟩:=h;exact ⟨s,r,b,a,c.symm⟩
theorem O8 {k u:Nat} (hu:u<ts.length):OD ts k u↔∃r,r<3/\u∈JM ts (CP (ts.getD k (0,0,0)) r):=by
  constructor
  · rintro ⟨r,s,h1,h2,h3⟩;exact ⟨r,h1,Fe.2 ⟨hu,s,h2,h3.symm⟩⟩
  · rintro ⟨r,h1,h2⟩;obtain ⟨_,s,h3,h4⟩:=Fe.1 h2;exact ⟨r,s,h1,h3,h4.symm⟩
inductive KG (ts:List T3) (i:Nat):Nat->Prop
  | refl:KG ts i i
  | step {j k:Nat}:KG ts i j->k<ts.length->OD ts j k->KG ts i k
theorem KG.trans {i j k:Nat} (h:KG ts i j) (h2:KG ts j k):KG ts i k:=by
  induction h2 with
  | refl=>exact h
  | step _ a b ih=>exact .step ih a b
theorem KG.symm {i j:Nat} (hi:i<ts.length) (h:KG ts i j):KG ts j i:=by
  have key:j<ts.length/\KG ts j i:=by
    induction h with
    | refl=>exact ⟨hi,.refl⟩
    | step _ a b ih=>exact ⟨a,(KG.step .refl ih.1 b.symm).trans ih.2⟩
  exact key.2
abbrev gZ (l:List Int) (s:Nat):Int:=l.getD s 0
theorem Er {l:List Int} {o s:Nat} {z:Int} (ho:o<l.length):gZ (l.set o z) s=if s=o then z else gZ l s:=by
  unfold gZ
  rw [List.getD,List.getElem?_set]
  by_cases h:o=s
  · subst h;rw [if_pos rfl,if_pos ho,if_pos rfl];rfl
  · rw [if_neg h,if_neg (λe=>h e.symm)];rfl
structure PS (ts:List T3) (t n:Nat) (l:List Int):Prop where
  len:l.length=ts.length
  rng:∀s,s<ts.length -> -1<=gZ l s/\gZ l s<n
  done:∀s,s<t->0<=gZ l s
  clo:∀s u,s<ts.length->u<ts.length->OD ts s u->0<=gZ l s->gZ l u=gZ l s
  fst:∀k,k<n->∃f,f<t/\gZ l f=(k:Int)/\∀s,s<f->gZ l s<k
  cnx:∀s u,s<ts.length->u<ts.length->0<=gZ l s->gZ l s=gZ l u->KG ts s u
  nle:n<=t
structure L5 (ts:List T3) (t n:Nat) (l0 l:List Int) (td:List Nat) (k r j:Nat):Prop where
  len:l.length=ts.length
  old:∀s,s<ts.length->0<=gZ l0 s->gZ l s=gZ l0 s
  new:∀s,s<ts.length->gZ l0 s<0->gZ l s = -1\/gZ l s=n/\KG ts t s
  root:gZ l t=n
  tdn:∀s∈td,s<ts.length/\gZ l s=n/\gZ l0 s<0
  nd:td.Nodup
  kk:k<ts.length/\gZ l k=n/\gZ l0 k<0
  prc:∀s,s<ts.length->gZ l0 s<0->gZ l s=n->s ∉ td->s≠k->∀u,u<ts.length->OD ts s u->gZ l u=n
  part:∀r',r'<r->∀u∈JM ts (CP (ts.getD k (0,0,0)) r'),gZ l u=n
  pj:∀q,q<j->gZ l ((JM ts (CP (ts.getD k (0,0,0)) r)).getD q 0)=n
structure Tq (ts:List T3) (t n:Nat) (l0 l:List Int) (td:List Nat):Prop where
  len:l.length=ts.length
  old:∀s,s<ts.length->0<=gZ l0 s->gZ l s=gZ l0 s
  new:∀s,s<ts.length->gZ l0 s<0->gZ l s = -1\/gZ l s=n/\KG ts t s
  root:gZ l t=n
  tdn:∀s∈td,s<ts.length/\gZ l s=n/\gZ l0 s<0
  nd:td.Nodup
  prc:∀s,s<ts.length->gZ l0 s<0->gZ l s=n->s ∉ td->∀u,u<ts.length->OD ts s u->gZ l u=n
def RR (l:List Int) (td:List Nat):Nat:=2*l.count (-1)+td.length
variable {t n k r j o:Nat} {l0 l:List Int} {td:List Nat}
theorem PS.start (hl:l.length=ts.length) (h:∀s,s<ts.length->gZ l s = -1):PS ts 0 0 l:=⟨hl,λs hs=>by rw [h s hs];omega,λs hs=>absurd hs (Nat.not_lt_zero _),λs u hs _ _ h0=>by rw [h s hs] at h0;omega,λk hk=>absurd hk (Nat.not_lt_zero _),λs u hs _ h0=>by rw [h s hs] at h0;omega,Nat.le_refl _⟩
theorem PS.next (h:PS ts t n l) (ht:0<=gZ l t):PS ts (t+1) n l:=⟨h.len,h.rng,λs hs=>by
    rcases Nat.lt_or_ge s t with h1|h1
    · exact h.done s h1
    · rw [show s=t by omega];exact ht,h.clo,λk hk=>by obtain ⟨f,a,b,c⟩:=h.fst k hk;exact ⟨f,by omega,b,c⟩,h.cnx,by have:=h.nle;omega⟩
theorem Tq.start (h:PS ts t n l0) (ht:t<ts.length) (hn:gZ l0 t<0):Tq ts t n l0 (l0.set t n) [t]:=by
  have hlt:t<l0.length:=by rw [h.len];exact ht
  refine ⟨by rw [List.length_set,h.len],λs hs h0=>?_,λs hs h0=>?_,by rw [Er hlt,if_pos rfl],λs hs=>?_,by simp,λs hs h0 hn' hnt u hu htc=>?_⟩
  · rw [Er hlt,if_neg (λe=>by subst e;omega)]
  · rw [Er hlt]
    split
    · rename_i e;subst e;exact .inr ⟨rfl,.refl⟩
    · exact .inl (by have:=(h.rng s hs).1;omega)
  · rw [List.mem_singleton] at hs
    subst hs
    exact ⟨ht,by rw [Er hlt,if_pos rfl],hn⟩
  · rw [List.mem_singleton] at hnt
    rw [Er hlt,if_neg hnt] at hn'
    have:=(h.rng s hs).2
    omega
theorem Tq.tl (h:Tq ts t n l0 l td):td.length<=ts.length:=GO h.nd λx hx=>(h.tdn x hx).1
theorem Tq.pop (h:Tq ts t n l0 l td) (h0:0<td.length):L5 ts t n l0 l (td.take (td.length-1)) (td.getD (td.length-1) 0) 0 0:=by
  have e:td=td.take (td.length-1)++[td.getD (td.length-1) 0]:=by
    have:=Dk (l:=td) (d:=0) (i:=td.length-1) (by omega)
    rw [show td.length-1+1=td.length by omega,List.take_length] at this
    exact this
  have hmem:∀s,s∈td↔s∈td.take (td.length-1)\/s=td.getD (td.length-1) 0:=λs=>by
    conv=>lhs;rw [e]
    rw [List.mem_append,List.mem_singleton]
  refine ⟨h.len,h.old,h.new,h.root,λs hs=>h.tdn s ((hmem s).2 (.inl hs)),h.nd.sublist (List.take_sublist _ _),h.tdn _ ((hmem _).2 (.inr rfl)),λs hs h1 h2 h3 h4=>h.prc s hs h1 h2 (λh5=>((hmem s).1 h5).elim h3 h4),λr' hr=>absurd hr (Nat.not_lt_zero _),λq hq=>absurd hq (Nat.not_lt_zero _)⟩
theorem Wh (h0:0<td.length):RR l (td.take (td.length-1))<RR l td:=by unfold RR;rw [List.length_take];omega
theorem L5.keep (h:L5 ts t n l0 l td k r j) (hP:PS ts t n l0) (ho:o=(JM ts (CP (ts.getD k (0,0,0)) r)).getD j 0) (hj:j<(JM ts (CP (ts.getD k (0,0,0)) r)).length) (hr:r<3) (hl:0<=gZ l o):L5 ts t n l0 l td k r (j+1):=by
  have hm:o∈JM ts (CP (ts.getD k (0,0,0)) r):=by rw [ho];exact FR hj
  have hot:=(Fe.1 hm).1
  have htc:OD ts k o:=(O8 hot).2 ⟨r,hr,hm⟩
  refine ⟨h.len,h.old,h.new,h.root,h.tdn,h.nd,h.kk,h.prc,h.part,λq hq=>?_⟩
  rcases Nat.lt_or_ge q j with h1|h1
  · exact h.pj q h1
  · rw [show q=j by omega,<-ho]
    rcases Int.lt_or_le (gZ l0 o) 0 with h2|h2
    · rcases h.new o hot h2 with h3|h3
      · omega
      · exact h3.1
    · have:=hP.clo o k hot h.kk.1 htc.symm h2
      have:=h.kk.2.2
      omega
theorem L5.push (h:L5 ts t n l0 l td k r j) (hP:PS ts t n l0) (ht:t<ts.length) (ho:o=(JM ts (CP (ts.getD k (0,0,0)) r)).getD j 0) (hj:j<(JM ts (CP (ts.getD k (0,0,0)) r)).length) (hr:r<3) (hl:gZ l o<0):L5 ts t n l0 (l.set o n) (td++[o]) k r (j+1):=by
  have hm:o∈JM ts (CP (ts.getD k (0,0,0)) r):=by rw [ho];exact FR hj
  have hot:=(Fe.1 hm).1
  have htc:OD ts k o:=(O8 hot).2 ⟨r,hr,hm⟩
  have hlt:o<l.length:=by rw [h.len];exact hot
  have h0:gZ l0 o<0:=by
    rcases Int.lt_or_le (gZ l0 o) 0 with h2|h2
    · exact h2
    · have:=h.old o hot h2;omega
  have hck:KG ts t k:=by
    rcases h.new k h.kk.1 h.kk.2.2 with h3|h3
    · have:=h.kk.2.1;omega
    · exact h3.2
  have up:∀s,gZ l s=n->gZ (l.set o n) s=n:=λs hs=>by
    rw [Er hlt];split
    · rfl
    · exact hs
  refine ⟨by rw [List.length_set,h.len],λs hs h1=>?_,λs hs h1=>?_,up _ h.root,λs hs=>?_,?_,⟨h.kk.1,up _ h.kk.2.1,h.kk.2.2⟩,λs hs h1 h2 h3 h4 u hu h5=>?_,λr' hr' u hu=>up _ (h.part r' hr' u hu),λq hq=>?_⟩
  · rw [Er hlt,if_neg (λe=>by subst e;omega)];exact h.old s hs h1
  · rw [Er hlt]
    split
    · rename_i e;subst e;exact .inr ⟨rfl,hck.step hs htc⟩
    · exact h.new s hs h1
  · rcases List.mem_append.1 hs with hs|hs
    · obtain ⟨a,b,c⟩:=h.tdn s hs;exact ⟨a,up _ b,c⟩
    · rw [List.mem_singleton] at hs;subst hs;exact ⟨hot,by rw [Er hlt,if_pos rfl],h0⟩
  · refine List.nodup_append.2 ⟨h.nd,by simp,λa ha b hb e=>?_⟩
    rw [List.mem_singleton] at hb
    subst hb e
    have:=(h.tdn a ha).2.1
    omega
  · have hso:s≠o:=λe=>h3 (List.mem_append_right _ (List.mem_singleton.2 e))
    rw [Er hlt,if_neg hso] at h2
    exact up _ (h.prc s hs h1 h2 (λh6=>h3 (List.mem_append_left _ h6)) h4 u hu h5)
  · rcases Nat.lt_or_ge q j with h1|h1
    · exact up _ (h.pj q h1)
    · rw [show q=j by omega,<-ho,Er hlt,if_pos rfl]
theorem L5.tl (h:L5 ts t n l0 l td k r j):td.length<=ts.length:=GO h.nd λx hx=>(h.tdn x hx).1
theorem L5.isneg (h:L5 ts t n l0 l td k r j) (ho:o<ts.length) (hl:gZ l o<0):gZ l o = -1:=by
  rcases Int.lt_or_le (gZ l0 o) 0 with h2|h2
  · rcases h.new o ho h2 with h3|h3
    · exact h3
    · omega
  · have:=h.old o ho h2;omega
theorem MN (ho:o<l.length) (hl:gZ l o = -1):RR (l.set o (n:Int)) (td++[o])<RR l td:=by
  have hp:0<l.count (-1):=List.count_pos_iff.2 (by rw [<-hl];unfold gZ;rw [List.getD,List.getElem?_eq_getElem ho];exact List.getElem_mem ho)
  have e:(l.set o (n:Int)).count (-1)=l.count (-1)-1:=by
    rw [List.count_set ho]
    have h1:l[o] = -1:=by unfold gZ at hl;rw [List.getD,List.getElem?_eq_getElem ho] at hl;exact hl
    simp [h1]<;>omega
  unfold RR
  rw [e,List.length_append]
  show _+(_+1)<_
  omega
theorem L5.corner (h:L5 ts t n l0 l td k r j) (hj:(JM ts (CP (ts.getD k (0,0,0)) r)).length<=j):L5 ts t n l0 l td k (r+1) 0 :=
  ⟨h.len,h.old,h.new,h.root,h.tdn,h.nd,h.kk,h.prc,λr' hr u hu=>by
    rcases Nat.lt_or_ge r' r with h1|h1
    · exact h.part r' h1 u hu
    · rw [show r'=r by omega] at hu
      obtain ⟨q,hq,rfl⟩:=List.getElem_of_mem hu
      have:=h.pj q (by omega)
      rw [List.getD,List.getElem?_eq_getElem hq] at this
      exact this,λq hq=>absurd hq (Nat.not_lt_zero _)⟩
theorem L5.close (h:L5 ts t n l0 l td k 3 0):Tq ts t n l0 l td:=⟨h.len,h.old,h.new,h.root,h.tdn,h.nd,λs hs h1 h2 h3 u hu h5=>by
  by_cases e:s=k
  · subst e
    obtain ⟨r,hr,hm⟩:=(O8 hu).1 h5
    exact h.part r hr u hm
  · exact h.prc s hs h1 h2 h3 e u hu h5⟩
theorem Tq.finish (h:Tq ts t n l0 l td) (hP:PS ts t n l0) (ht:t<ts.length) (h0:td.length=0) (hn:gZ l0 t<0):PS ts (t+1) (n+1) l:=by
  have htd:td=[]:=List.eq_nil_of_length_eq_zero h0
  subst htd
  have cs:∀s,s<ts.length->(0<=gZ l0 s/\gZ l s=gZ l0 s)\/(gZ l0 s<0/\(gZ l s = -1\/gZ l s=n/\KG ts t s)):=λs hs=>by
    rcases Int.lt_or_le (gZ l0 s) 0 with h2|h2
    · exact .inr ⟨h2,h.new s hs h2⟩
    · exact .inl ⟨h2,h.old s hs h2⟩
  refine ⟨h.len,λs hs=>?_,λs hs=>?_,λs u hs hu htc h1=>?_,λk hk=>?_,λs u hs hu h1 h2=>?_,by have:=hP.nle;omega⟩
  · have:=hP.rng s hs
    rcases cs s hs with ⟨a,b⟩|⟨a,b|b⟩<;>omega
  · rcases Nat.lt_or_ge s t with h1|h1
    · have h2:=hP.done s h1
      rw [h.old s (by omega) h2];exact h2
    · rw [show s=t by omega,h.root];omega
  · rcases cs s hs with ⟨a,b⟩|⟨a,b|b⟩
    · have h3:=hP.clo s u hs hu htc a
      rw [b,h.old u hu (by omega),h3]
    · omega
    · rw [b.1];exact h.prc s hs a b.1 (by simp) u hu htc
  · rcases Nat.lt_or_ge k n with h1|h1
    · obtain ⟨f,a,b,c⟩:=hP.fst k h1
      refine ⟨f,by omega,by rw [h.old f (by omega) (by omega)];exact b,λs hs=>?_⟩
      have:=hP.done s (by omega)
      rw [h.old s (by omega) this];exact c s hs
    · refine ⟨t,by omega,by rw [h.root,show k=n by omega],λs hs=>?_⟩
      have h2:=hP.done s hs
      rw [h.old s (by omega) h2]
      have:=(hP.rng s (by omega)).2
      omega
  · rcases cs s hs with ⟨a,b⟩|⟨a,b|b⟩
    · rcases cs u hu with ⟨a',b'⟩|⟨a',b'|b'⟩
      · exact hP.cnx s u hs hu a (by omega)
      · omega
      · have:=(hP.rng s hs).2;omega
    · omega
    · rcases cs u hu with ⟨a',b'⟩|⟨a',b'|b'⟩
      · have:=(hP.rng u hu).2;omega
      · omega
      · exact (b.2.symm ht).trans b'.2
end
structure Pj (ts:List T3) (l:List Int) (n:Nat):Prop where
  len:l.length=ts.length
  rng:∀s,s<ts.length->0<=gZ l s/\gZ l s<n
  clo:∀s u,s<ts.length->u<ts.length->OD ts s u->gZ l u=gZ l s
  fst:∀k,k<n->∃f,f<ts.length/\gZ l f=(k:Int)/\∀s,s<f->gZ l s<k
  cnx:∀s u,s<ts.length->u<ts.length->gZ l s=gZ l u->KG ts s u
  nle:n<=ts.length
theorem PS.fin {ts:List T3} {n:Nat} {l:List Int} (h:PS ts ts.length n l):Pj ts l n:=⟨h.len,λs hs=>⟨h.done s hs,(h.rng s hs).2⟩,λs u hs hu htc=>h.clo s u hs hu htc (h.done s hs),h.fst,λs u hs hu=>h.cnx s u hs hu (h.done s hs),h.nle⟩
structure XH (ts:List T3) where
  l:List Int
  n:Nat
  pts:Pj ts l n
  r:RX (zL l) l.length
instance {ts:List T3}:Dx (XH ts):=⟨λx=>.tuple #[x.r.val,vN x.n],λx=>[x.r.row],λx y hy=>by rcases List.mem_singleton.1 hy with rfl;rfl⟩
theorem Xd {S:Nat->Prop} {W w:World} {L:List As} {ts:List T3} {l:List Int} {n:Nat} (hw:BK ⟨W,none⟩ w L) (i:Nat) {q:Option Addr} {T m c:Nat} (hi:L[i]?=some (rowW q T 1 m c (zL l))) (ho:OwnOk q m c) (hl:m=l.length) (h:Pj ts l n) {v:Value} (hv:v=.tuple #[.slice q m c,vN n]):Bc (XH ts) S W (.returned v) w:=by
  subst hl
  refine ⟨⟨l,n,h,⟨q,c,ho.row⟩⟩,by rw [hv];rfl,hw.out,λy hy=>?_⟩
  rcases List.mem_singleton.1 hy with rfl
  exact EN hw i hi ho (by rw [Cr,Nat.mul_one])
def RU (n t:Nat):List Int:=List.replicate t (-1)++List.replicate (n-t) 0
theorem P4 {n t:Nat} (h:t<=n):(RU n t).length=n:=by unfold RU;rw [List.length_append,List.length_replicate,List.length_replicate];omega
theorem Vh {n t:Nat} (h:t<n):(RU n t).set t (-1)=RU n (t+1):=by
  unfold RU
  rw [List.set_append_right _ _ (by rw [List.length_replicate];exact Nat.le_refl _),List.length_replicate,Nat.sub_self,show n-t=(n-(t+1))+1 by omega,List.replicate_succ,List.set_cons_zero,List.replicate_succ',List.append_assoc];rfl
theorem Ui {n s:Nat} (h:s<n):gZ (RU n n) s = -1:=by
  unfold RU gZ
  rw [Nat.sub_self,List.replicate_zero,List.append_nil,List.getD,List.getElem?_replicate,if_pos h];rfl
section
variable {ts:List T3} {n n':Nat} {l l':List Int}
theorem Pj.iff (h:Pj ts l n) {s u:Nat} (hs:s<ts.length) (hu:u<ts.length):gZ l s=gZ l u↔KG ts s u:=by
  refine ⟨h.cnx s u hs hu,λc=>?_⟩
  have key:u<ts.length->gZ l s=gZ l u:=by
    clear hu
    induction c with
    | refl=>intro _;rfl
    | step c1 hk htc ih =>
      rename_i j k
      intro _
      have hj:j<ts.length:=by
        cases c1 with
        | refl=>exact hs
        | step _ a _=>exact a
      rw [ih hj,h.clo _ _ hj hk htc]
  exact key hu
theorem R7 (h:Pj ts l n) (h':Pj ts l' n') {k:Nat} (ih:∀j,j<k->∀s,s<ts.length->(gZ l s=(j:Int)↔gZ l' s=(j:Int))) (hk:k<n):k<n'/\∀s,s<ts.length->(gZ l s=(k:Int)↔gZ l' s=(k:Int)):=by
  obtain ⟨f,hf,f1,f2⟩:=h.fst k hk
  have hr:=h'.rng f hf
  have hv:(k:Int)<=gZ l' f:=by
    rcases Int.lt_or_le (gZ l' f) k with h1|h1
    · have h2:=(ih (gZ l' f).toNat (by omega) f hf).2 (by omega)
      omega
    · exact h1
  have hkn:k<n':=by omega
  obtain ⟨g,hg,g1,g2⟩:=h'.fst k hkn
  have hu:(k:Int)<=gZ l g:=by
    have hr2:=h.rng g hg
    rcases Int.lt_or_le (gZ l g) k with h1|h1
    · have h2:=(ih (gZ l g).toNat (by omega) g hg).1 (by omega)
      omega
    · exact h1
  have hfg:f=g:=by
    rcases Nat.lt_trichotomy f g with h1|h1|h1
    · have:=g2 f h1;omega
    · exact h1
    · have:=f2 g h1;omega
  subst hfg
  refine ⟨hkn,λs hs=>?_⟩
  rw [<-f1,h.iff hs hf,f1,<-g1,h'.iff hs hf]
theorem PY (h:Pj ts l n) (h':Pj ts l' n') (k:Nat):k<n->k<n'/\∀s,s<ts.length->(gZ l s=(k:Int)↔gZ l' s=(k:Int)):=by
  induction k using Nat.strongRecOn with
  | ind k ih=>exact λhk=>R7 h h' (λj hj=>(ih j hj (by omega)).2) hk
theorem V9 (h:Pj ts l n) (h':Pj ts l' n'):n=n':=by
  have h1:n<=n':=by
    rcases Nat.eq_zero_or_pos n with e|e
    · omega
    · have:=(PY h h' (n-1) (by omega)).1;omega
  have h2:n'<=n:=by
    rcases Nat.eq_zero_or_pos n' with e|e
    · omega
    · have:=(PY h' h (n'-1) (by omega)).1;omega
  omega
end
structure Yr (l:List Nat) where
  r:RX (inL l) l.length
  q:RX [Value.slice r.p l.length r.c] 1
instance {l:List Nat}:Dx (Yr l):=⟨λx=>x.q.val,λx=>[x.q.row,x.r.row],λx y hy=>by simp only [List.mem_cons,List.not_mem_nil,or_false] at hy;rcases hy with rfl|rfl<;>rfl⟩
structure Yg (n:Nat) where
  cs:List Value
  q:RX cs n
instance {n:Nat}:Dx (Yg n):=⟨λx=>x.q.val,λx=>[x.q.row],λx y hy=>by rcases List.mem_singleton.1 hy with rfl;rfl⟩
end
end Go.Proofs.YtfbomiejpbchdaaGreat
