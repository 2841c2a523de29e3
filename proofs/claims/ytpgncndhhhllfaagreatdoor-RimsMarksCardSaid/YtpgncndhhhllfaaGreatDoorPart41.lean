import Derived.WideLaws
import Derived.Test.YtpgncndhhhllfaaGreatDoorPart06
import Derived.Test.YtpgncndhhhllfaaGreatDoorPart37
import Derived.Test.YtpgncndhhhllfaaGreatDoorPart38
import Derived.Test.YtpgncndhhhllfaaGreatDoorPart39
namespace Go.Proofs.YtpgncndhhhllfaaGreatDoor
open Go Go.RowKit Go.Proofs.Tryz
set_option linter.unusedVariables false
set_option linter.unusedSimpArgs false
section
section
variable {P:Program} {n:Nat} {F:List (Nat×Value)} {w0:A7} {L:List As} {x y:Operand} {d:Option Tmp} {t:TypeId} {p:String} {af:Array Edge} {g:Option (Nat×Bool)}
theorem B2 {cs:List Value} {s e nn:Nat} {ki:IntKind} {j:Nat} {v:Value} (hx:evF F x=some (aG cs)) (hy:evF F y=some (.int ki ((j:Nat):Int))) (hu:P.underlying s=some (.array nn e)) (hsz:∀w,(sizeOf e).run P w=.ok 1 w) (hg:∀w,(isAgg e).run P w=.ok false w) (hj:j<nn) (hv:cs[j]?=some v) :
    Ex P n F w0 L ⟨d,.index s x y,t,p,af,g⟩ v:=λA w ha _=>by
  simp [execOp,ha.ev hx,ha.ev hy,Instr.index,asIntOf,run_underlying hu,hsz,hg,hj,hv,part]
end
def CG (ts:List T3):Nat->List (Nat×Nat)
  | 0=>[]
  | s+1=>Az (CG ts s) (CU (ts.getD (s/3) (0,0,0)) (s%3)) ((Ac (CG ts s) (CU (ts.getD (s/3) (0,0,0)) (s%3))).getD 0+1)
theorem Ht {ts:List T3} {t r:Nat} (hr:r<3):Az (CG ts (3*t+r)) (CU (ts.getD t (0,0,0)) r) ((Ac (CG ts (3*t+r)) (CU (ts.getD t (0,0,0)) r)).getD 0+1)=CG ts (3*t+r+1):=by
  show _=Az (CG ts (3*t+r)) (CU (ts.getD ((3*t+r)/3) (0,0,0)) ((3*t+r)%3)) ((Ac (CG ts (3*t+r)) (CU (ts.getD ((3*t+r)/3) (0,0,0)) ((3*t+r)%3))).getD 0+1)
  rw [show (3*t+r)/3=t by omega,show (3*t+r)%3=r by omega]
theorem Gx {ts:List T3}:∀s k,(Ac (CG ts s) k).getD 0<=s
  | 0,k=>Nat.zero_le _
  | s+1,k=>by
    show (Ac (Az _ _ _) k).getD 0<=_
    rw [CR];split
    · have:=Gx (ts:=ts) s (CU (ts.getD (s/3) (0,0,0)) (s%3));show _+1<=_;omega
    · exact Nat.le_trans (Gx s k) (by omega)
theorem P7 {kvs:List (Nat×Nat)} {x y:Nat}:(Az kvs x y).length<=kvs.length+1:=by
  induction kvs with
  | nil=>exact Nat.le_refl _
  | cons p r ih=>obtain ⟨k,v⟩:=p;unfold Az;split<;>simp only [List.length_cons]<;>omega
theorem JB {ts:List T3}:∀s,(CG ts s).length<=s
  | 0=>Nat.le_refl _
  | s+1=>Nat.le_trans P7 (by have:=JB (ts:=ts) s;omega)
theorem FS {ts:List T3} {N:Nat} (hn:By N ts=true) (hN:N<=4611686018427387904):∀s,s<=3*ts.length->F_ TK (CG ts s)
  | 0,_=>⟨λp hp=>(by cases hp),List.Pairwise.nil⟩
  | s+1,h=>(FS hn hN s (by omega)).put (by
    obtain ⟨g1,g2,g3⟩:=DP (DK hn (show s/3<ts.length by omega))
    show CU _ _<_
    unfold CU;split
    · omega
    · split<;>omega)
def KB (ts:List T3):Int:=((CG ts (3*ts.length)).length:Int)-(B4 ts).length+ts.length
end
section
set_option maxRecDepth 100000
theorem EG:Hm Tryz.prog 3 vN TK:=W3 Tryz.underlying3
set_option maxHeartbeats 1000000 in
theorem L5 {ps:List Pt} {ts ss:List T3} (x:MX ps ts ss) (hnb:By ps.length ts=true) (hp:ps.length<=1000000) (htl:ts.length<=1000000) (w:World) {S:Nat->Prop} (hx:Ro S w x):Calls Tryz.prog 65 #[(aG (CC x))] w (An w (vI (KB ts))):=by
 have hel0:=OE ts
 have hcl0:=JB (ts:=ts) (3*ts.length)
 have lx:=DF (W:=w) hx
 refine Ah (args:=[(aG (CC x))]) (L:=[AI x.a.p (rowsL BE ps),AI x.b.p (rowsL Aq ts),AI x.c.p (rowsL Aq ss)]) Tryz.func65 rfl rfl (AY rfl) (EV hx Ar) (AF.subF (sL [0] rfl) (q4 (B9 (cs:=CC x) rfl λb1=>asg' rfl (q6 (sL [1,2] rfl) ?_))))
 refine q4 (BF 0 B1 rfl (DC (args:=[(aG (CC x))]) (v:=(Value.bool true)) Tryz.call76 (λw hw=>(by have h9:=IY x (by omega) w (inS hw 1 rfl lx);rw [hnb] at h9;exact h9)) rfl (AH (Bw (c:=false) rfl rfl) rfl (AD.nil (AC.subF (sL [1,2,10] rfl) ?_)))))
 refine AC.then_ (AF.cond_false rfl (AF.skip (q2 (AD.makeMap vN vN (AO rfl) rfl λb2=>asg' rfl ?_))))
 refine q6 (sL [1,2,3] rfl) (q4 (AH (v:=(pP b1 1)) (AA rfl Tryz.underlying30 rfl Tryz.sizeOf23 rfl) rfl (BD 1 (Value.slice x.b.p ts.length x.b.c) EU rfl (AH (v:=(vN ts.length)) (AE rfl Tryz.underlying23) rfl (AJ rfl ?_)))))
 refine AD.nil (AC.subF (sL [1,2,3,13,14,15] rfl) (AC.then_ (AF.block ?_)))
 refine AF.lp1 (tg λ(t:Nat)=>t<=ts.length) (tg λ(t:Nat)=>[(1,(pP b1 0)),(2,(vI 0)),(3,(Value.map (some b2))),(13,(Value.slice x.b.p ts.length x.b.c)),(14,(vN ts.length)),(15,(vN t))]) (tg λ(t:Nat)=>[Bd b2 vN vN (CG ts (3*t+0)),Ab b1 30 (CC x),AI x.a.p (rowsL BE ps),AI x.b.p (rowsL Aq ts),AI x.c.p (rowsL Aq ss)]) (tg λ(t:Nat)=>ts.length-t) 0 (Nat.zero_le _) (sF rfl) sr (λt hJ=>?_)
 have ht:=hJ
 refine q4 (AH (Ad (c:=(decide (t<ts.length))) rfl rfl (CB (a:=t) (b:=ts.length))) rfl (AD.nil (q1 ?_)))
 refine AF.cond rfl (λhc1=>?_) (λhc1=>?_)
 ·replace hc1:=of_decide_eq_true hc1
  obtain ⟨T,hT⟩:∃q,q=ts.getD t (0,0,0):=⟨_,rfl⟩
  obtain ⟨g1,g2,g3⟩:=DP (DK hnb hc1)
  rw [<-hT] at g1 g2 g3
  refine AF.skip (q1 (AF.block (q4 (AH (v:=(pP (pB x.b.p) (pO x.b.p+t*3))) (AL (j:=t) rfl rfl x.b.ok Tryz.underlying23 Tryz.sizeOf53 rfl (by omega)) rfl (AH (v:=(aG (Aq (ts.getD t ((0,0,0):Nat×Nat×Nat))))) (Ae (vs:=Aq (ts.getD t ((0,0,0):Nat×Nat×Nat))) (i:=3) rfl rfl (A6.ne x.b.ok (by omega)) GL (Ax BR _ _ _ (by omega)) (BR _)) rfl ?_)))))
  refine AD.retell (k:=18) (u:=(aG (Aq T))) rfl (by rw [hT]) (al R_ rfl λb3=>BC rfl Tryz.sizeOf53 rfl (q3 (sL [1,2,3,13,14,15,5] rfl) (BF 0 GL rfl (AJ rfl ?_))))
  refine AD.nil (AC.then_ (AF.block (AF.unroll 4 (Gd.step (q4 ?_)))))
  refine AH (Ad (c:=true) rfl rfl (by decide)) rfl (AD.nil (q1 (AF.cond_true rfl (AF.skip (q1 ?_)))))
  refine AF.block (q4 (AH (v:=(vN T.1)) (B2 (j:=0) rfl rfl Tryz.underlying53 Tryz.sizeOf3 Tryz.isAgg3 (by decide) rfl) rfl (asg' rfl (AD.nil (AC.subF (sL [1,2,3,13,14,15,5,19,20,7] rfl) ?_)))))
  refine AC.then_ (AF.region (AJ rfl (AJ rfl (AH (v:=(vN ((Ac (CG ts (3*t+0)) T.1).getD 0))) (BZ EG 1 (eV:=vN) (kvs:=CG ts (3*t+0)) (x:=T.1) (z0:=0) (co:=false) rfl rfl Tryz.underlying196 Tryz.zeroValue3 rfl (FS hnb (by omega) _ (by omega)) (by show (_:Nat)<_;omega)) rfl ?_))))
  have hle0:=Gx (ts:=ts) (3*t+0) T.1
  refine AH (AW (c:=((((Ac (CG ts (3*t+0)) T.1).getD 0)+1:Nat):Int)) rfl rfl (AR (a:=(Ac (CG ts (3*t+0)) T.1).getD 0) (b:=1) (by omega))) rfl (AD.mapUpdate EG 1 (kvs:=CG ts (3*t+0)) (x:=T.1) (y:=((Ac (CG ts (3*t+0)) T.1).getD 0)+1) (AO rfl) rfl rfl rfl Tryz.underlying196 rfl (FS hnb (by omega) _ (by omega)) (by show (_:Nat)<_;omega) ?_)
  rw [show Az (CG ts (3*t+0)) T.1 (((Ac (CG ts (3*t+0)) T.1).getD 0)+1)=CG ts (3*t+1) from by rw [hT];exact Ht (by omega)]
  refine AD.nil (AC.subF (sL [1,2,3,13,14,15,5,19,20] rfl) (AC.in_normal (AC.then_ (AF.region (AH (AW (c:=(1:Int)) rfl rfl (by decide)) rfl ?_)))))
  refine AJ rfl (AD.nil (AC.subF (sL [1,2,3,13,14,15,5,19,20] rfl) (AC.again (Gd.step (q4 ?_)))))
  refine AH (Ad (c:=true) rfl rfl (by decide)) rfl (AD.nil (q1 (AF.cond_true rfl (AF.skip (q1 ?_)))))
  refine AF.block (q4 (AH (v:=(vN T.2.1)) (B2 (j:=1) rfl rfl Tryz.underlying53 Tryz.sizeOf3 Tryz.isAgg3 (by decide) rfl) rfl (asg' rfl (AD.nil (AC.subF (sL [1,2,3,13,14,15,5,19,20,7] rfl) ?_)))))
  refine AC.then_ (AF.region (AJ rfl (AJ rfl (AH (v:=(vN ((Ac (CG ts (3*t+1)) T.2.1).getD 0))) (BZ EG 1 (eV:=vN) (kvs:=CG ts (3*t+1)) (x:=T.2.1) (z0:=0) (co:=false) rfl rfl Tryz.underlying196 Tryz.zeroValue3 rfl (FS hnb (by omega) _ (by omega)) (by show (_:Nat)<_;omega)) rfl ?_))))
  have hle1:=Gx (ts:=ts) (3*t+1) T.2.1
  refine AH (AW (c:=((((Ac (CG ts (3*t+1)) T.2.1).getD 0)+1:Nat):Int)) rfl rfl (AR (a:=(Ac (CG ts (3*t+1)) T.2.1).getD 0) (b:=1) (by omega))) rfl (AD.mapUpdate EG 1 (kvs:=CG ts (3*t+1)) (x:=T.2.1) (y:=((Ac (CG ts (3*t+1)) T.2.1).getD 0)+1) (AO rfl) rfl rfl rfl Tryz.underlying196 rfl (FS hnb (by omega) _ (by omega)) (by show (_:Nat)<_;omega) ?_)
  rw [show Az (CG ts (3*t+1)) T.2.1 (((Ac (CG ts (3*t+1)) T.2.1).getD 0)+1)=CG ts (3*t+2) from by rw [hT];exact Ht (by omega)]
  refine AD.nil (AC.subF (sL [1,2,3,13,14,15,5,19,20] rfl) (AC.in_normal (AC.then_ (AF.region (AH (AW (c:=(2:Int)) rfl rfl (by decide)) rfl ?_)))))
  refine AJ rfl (AD.nil (AC.subF (sL [1,2,3,13,14,15,5,19,20] rfl) (AC.again (Gd.step (q4 ?_)))))
  refine AH (Ad (c:=true) rfl rfl (by decide)) rfl (AD.nil (q1 (AF.cond_true rfl (AF.skip (q1 ?_)))))
  refine AF.block (q4 (AH (v:=(vN T.2.2)) (B2 (j:=2) rfl rfl Tryz.underlying53 Tryz.sizeOf3 Tryz.isAgg3 (by decide) rfl) rfl (asg' rfl (AD.nil (AC.subF (sL [1,2,3,13,14,15,5,19,20,7] rfl) ?_)))))
  refine AC.then_ (AF.region (AJ rfl (AJ rfl (AH (v:=(vN ((Ac (CG ts (3*t+2)) T.2.2).getD 0))) (BZ EG 1 (eV:=vN) (kvs:=CG ts (3*t+2)) (x:=T.2.2) (z0:=0) (co:=false) rfl rfl Tryz.underlying196 Tryz.zeroValue3 rfl (FS hnb (by omega) _ (by omega)) (by show (_:Nat)<_;omega)) rfl ?_))))
  have hle2:=Gx (ts:=ts) (3*t+2) T.2.2
  refine AH (AW (c:=((((Ac (CG ts (3*t+2)) T.2.2).getD 0)+1:Nat):Int)) rfl rfl (AR (a:=(Ac (CG ts (3*t+2)) T.2.2).getD 0) (b:=1) (by omega))) rfl (AD.mapUpdate EG 1 (kvs:=CG ts (3*t+2)) (x:=T.2.2) (y:=((Ac (CG ts (3*t+2)) T.2.2).getD 0)+1) (AO rfl) rfl rfl rfl Tryz.underlying196 rfl (FS hnb (by omega) _ (by omega)) (by show (_:Nat)<_;omega) ?_)
  rw [show Az (CG ts (3*t+2)) T.2.2 (((Ac (CG ts (3*t+2)) T.2.2).getD 0)+1)=CG ts (3*t+3) from by rw [hT];exact Ht (by omega)]
  refine AD.nil (AC.subF (sL [1,2,3,13,14,15,5,19,20] rfl) (AC.in_normal (AC.then_ (AF.region (AH (AW (c:=(3:Int)) rfl rfl (by decide)) rfl ?_)))))
  refine AJ rfl (AD.nil (AC.subF (sL [1,2,3,13,14,15,5,19,20] rfl) (AC.again (Gd.step (q4 ?_)))))
  refine AH (Ad (c:=false) rfl rfl (by decide)) rfl (AD.nil (q1 (AF.cond_false rfl (AF.exit (AC.then_exit ?_)))))
  refine AC.then_exit (AC.in_exit (AC.in_normal (AC.then_ (AF.region (AH (AW (c:=((t+1:Nat):Int)) rfl rfl (AR (a:=t) (b:=1) (by omega))) rfl ?_)))))
  refine AJ rfl (AD.nil (AC.subF (sL [1,2,3,13,14,15,5,19,20] rfl) ?_))
  rw [show 3*t+3=3*(t+1)+0 by omega]
  exact AC.round1 (t+1) (by omega) (by omega) (sF rfl) (sl sr)
 ·replace hc1:=of_decide_eq_false hc1
  rw [show CG ts (3*t+0)=CG ts (3*ts.length) by rw [show 3*t+0=3*ts.length by omega]]
  refine AF.exit (AC.then_exit (AC.round1_exit (AC.in_exit (q1 (Cw [(0,true),(1,true),(2,true),(6,true),(7,true),(8,true),(3,false),(4,true),(5,true),(9,true),(10,true)] sr ?_)))))
  refine BS rfl (Aw (v:=(vN ((CG ts (3*ts.length)).length))) rfl (Jp 0 rfl Tryz.underlying196 rfl) (GO 1 B1 rfl (Aw (v:=(pP b1 1)) rfl (AA rfl Tryz.underlying30 rfl Tryz.sizeOf23 rfl) (Bm 1 (Value.slice x.b.p ts.length x.b.c) EU rfl (Aw (v:=(vN ts.length)) rfl (AE rfl Tryz.underlying23) ?_)))))
  refine OkE.imp rfl (cX (S:=S) (cs:=rowsL CN (B4 ts)) (k:=(B4 ts).length) (args:=[(aG (CC x))]) Tryz.call37 (λw hw=>TX x (by omega) (by omega) hnb w (inS hw 2 rfl lx)) rfl rfl rfl λo lo=>OkE.back (sl sr) (Aw (v:=(vN ((B4 ts).length))) rfl (AE rfl Tryz.underlying88) (Aw rfl (BL (c:=((((CG ts (3*ts.length)).length:Nat):Int)-((B4 ts).length:Nat))) rfl rfl (BK (by omega) (by omega))) (Aw rfl (AW (c:=(KB ts)) rfl rfl (by unfold KB;exact BK (by omega) (by omega))) ?_))))
  exact pS' rfl (OkE.nil (AC.subF (sL [1,2,3,13,14,15] rfl) (AC.then_ (AF.ret (AN rfl (AQ (v:=(vI (KB ts))) rfl) (λw hw=>⟨rfl,hw.out⟩))))))
end
section
set_option maxRecDepth 100000
theorem TS (T:T3) (k:P2) (hT:T.1<1099511627776/\T.2.1<1099511627776/\T.2.2<1099511627776) (hk:k.1+k.2<=T.1+T.2.1+T.2.2) (w:World)  :Calls Tryz.prog 175 #[(aG (Aq T)),(aG (BY k))] w (An w (vN (Gr T k))):=by
 refine Ag (args:=[(aG (Aq T)),(aG (BY k))]) Tryz.func175 rfl rfl (AY rfl) (AF.subF (sL [0,1] rfl) (q4 (B9 (cs:=Aq T) rfl λb1=>B9 (cs:=BY k) rfl λb2=>asg' rfl ?_)))
 refine q3 (sL [2,3,4] rfl) (AH (v:=(pP b1 0)) (AX (j:=0) rfl rfl Tryz.underlying53 Tryz.sizeOf3 rfl (by decide) rfl) rfl (BD 1 (vN T.1) Be rfl (AH (v:=(pP b1 1)) (AX (j:=1) rfl rfl Tryz.underlying53 Tryz.sizeOf3 rfl (by decide) rfl) rfl (BD 1 (vN T.2.1) Be rfl (AH (AW (c:=((T.1+T.2.1:Nat):Int)) rfl rfl (AR (a:=T.1) (b:=T.2.1) (by omega))) rfl ?_)))))
 refine AH (v:=(pP b1 2)) (AX (j:=2) rfl rfl Tryz.underlying53 Tryz.sizeOf3 rfl (by decide) rfl) rfl (BD 1 (vN T.2.2) Be rfl (AH (AW (c:=(((T.1+T.2.1)+T.2.2:Nat):Int)) rfl rfl (AR (a:=T.1+T.2.1) (b:=T.2.2) (by omega))) rfl (AH (v:=(pP b2 0)) (AX (j:=0) rfl rfl Tryz.underlying190 Tryz.sizeOf3 rfl (by decide) rfl) rfl (BD 0 (vN k.1) Be rfl (AH (BL (c:=((((T.1+T.2.1)+T.2.2)-k.1:Nat):Int)) rfl rfl (Bj (a:=(T.1+T.2.1)+T.2.2) (b:=k.1) (by omega) (by omega))) rfl ?_)))))
 refine AH (v:=(pP b2 1)) (AX (j:=1) rfl rfl Tryz.underlying190 Tryz.sizeOf3 rfl (by decide) rfl) rfl (BD 0 (vN k.2) Be rfl (AH (BL (c:=(((((T.1+T.2.1)+T.2.2)-k.1)-k.2:Nat):Int)) rfl rfl (Bj (a:=((T.1+T.2.1)+T.2.2)-k.1) (b:=k.2) (by omega) (by omega))) rfl (asg' rfl (AD.nil (AC.subF (sL [4] rfl) ?_)))))
 exact AC.then_ (AF.ret (AN rfl (AQ (v:=(vN ((((T.1+T.2.1)+T.2.2)-k.1)-k.2))) rfl) (λw hw=>⟨rfl,hw.out⟩)))
theorem Dv (x0 x1:Nat):Instr.fill (λi=>some (i*1,1)) (BY ((0,0):P2)).toArray [(0,vN x0),(1,vN x1)]=some (BY (x0,x1)).toArray:=by kernel_rfl
set_option maxHeartbeats 1000000 in
theorem Q7 {ps:List Pt} {ts ss:List T3} (x:MX ps ts ss) (sx:SX ts true) (k0:P2) (hnb:By ps.length ts=true) (ho:Cl ts (3*ts.length)=true) (h0:QZ ts k0) (hp:ps.length<=1000000) (htl:ts.length<=1000000) (w:World) {S:Nat->Prop} (hx:Ro S w x) (hsx:Ro S w sx):Calls Tryz.prog 114 #[(aG (CC x)),(Value.map (some sx.b)),(aG (BY k0))] w (An w (aG (BY (NI ts k0)))):=by
 have hkv:sx.kvs=J7 ts:=sx.fin rfl
 obtain ⟨hs0,hs1,hs2,hs3⟩:=Ve hnb ho h0.1
 have lx:=DF (W:=w) hx
 have lsx:=DF (W:=w) hsx
 refine Ah (args:=[(aG (CC x)),(Value.map (some sx.b)),(aG (BY k0))]) (L:=[AI x.a.p (rowsL BE ps),AI x.b.p (rowsL Aq ts),AI x.c.p (rowsL Aq ss),G1 sx.b Dw vN sx.kvs]) Tryz.func114 rfl rfl (AY rfl) (EV hx (EV hsx Ar)) (AF.subF (sL [0,1,2] rfl) (q4 (B9 (cs:=CC x) rfl λb1=>B9 (cs:=BY k0) rfl λb2=>al H4 rfl λb3=>?_)))
 refine q3 (sL [1,3,5,6] rfl) (AJ rfl (BF 1 EH rfl (AH (v:=(vN ((Ac sx.kvs k0).getD 0))) (FJ Ev 6 (eV:=vN) (kvs:=sx.kvs) (x:=k0) (z0:=0) (co:=false) rfl rfl Tryz.underlying186 Tryz.zeroValue3 rfl (sx.ok) (Ll hnb (by omega) h0.1)) rfl (asg' rfl (AD.nil ?_)))))
 refine AC.subF (sL [1,3,5,6,7] rfl) (AC.then_ (AF.block ?_))
 refine AF.lp3 (tg λ(i:Nat) (k:P2) (tq:Nat)=>Fq ts k0 i k/\tq=(Ac (J7 ts) k).getD 0) (tg λ(i:Nat) (k:P2) (tq:Nat)=>[(1,(Value.map (some sx.b))),(3,(pP b1 0)),(5,(pP b2 0)),(6,(pP b3 0)),(7,(vN tq))]) (tg λ(i:Nat) (k:P2) (tq:Nat)=>[Ab b3 190 (BY ((0,0):P2)),Ab b2 190 (BY k),Ab b1 30 (CC x),AI x.a.p (rowsL BE ps),AI x.b.p (rowsL Aq ts),AI x.c.p (rowsL Aq ss),G1 sx.b Dw vN sx.kvs]) (tg λ(i:Nat) (k:P2) (tq:Nat)=>3*ts.length-i) 0 k0 ((Ac sx.kvs k0).getD 0) (⟨Fq.zero h0.1,by rw [hkv]⟩) (sF rfl) sr (λi k tq hJ=>?_)
 obtain ⟨hb,htq⟩:=hJ
 obtain ⟨hk0,hk1,hk2,hk3⟩:=Ve hnb ho hb.isS
 rw [<-htq] at hk0 hk3
 have hil:=hb.lt ho h0
 obtain ⟨g1,g2,g3⟩:=DP (DK hnb hk0)
 have hth:Gr (ts.getD tq (0,0,0)) k<=3000000:=by unfold Gr;omega
 have hnx:KE ts k=(k.2,Gr (ts.getD tq (0,0,0)) k):=by unfold KE;rw [<-htq]
 refine AF.block (AF.seq (rN [(0,true),(1,true),(2,true),(3,true),(4,true),(5,true),(6,true),(7,true),(8,false),(9,true)] [⟨10,8,190,BY ((0,0):P2)⟩] [(11,false)] sr (by kernel_rfl) (λ_ _ d _ _ h=>by cases d<;>exact h) (QF rfl rfl H4 rfl (Si)) rfl (Qn (v:=(pP b2 1)) rfl (AX (j:=1) rfl rfl Tryz.underlying190 Tryz.sizeOf3 rfl (by decide) rfl) rfl (VC 1 (vN k.2) Be rfl (Qn (v:=(pP b1 1)) rfl (AA rfl Tryz.underlying30 rfl Tryz.sizeOf23 rfl) rfl ?_)))))
 refine VC 2 (Value.slice x.b.p ts.length x.b.c) EU rfl (ZL rfl (Qn (v:=(pP (pB x.b.p) (pO x.b.p+tq*3))) rfl (AL (j:=tq) rfl rfl x.b.ok Tryz.underlying23 Tryz.sizeOf53 rfl (by omega)) rfl (Qn (v:=(aG (Aq (ts.getD tq ((0,0,0):Nat×Nat×Nat))))) rfl (Ae (vs:=Aq (ts.getD tq ((0,0,0):Nat×Nat×Nat))) (i:=4) rfl rfl (A6.ne x.b.ok (by omega)) GL (Ax BR _ _ _ (by omega)) (BR _)) rfl (XB 1 EH rfl (Cb.imp rfl λEF EL=>?_)))))
 refine ck' Tryz.call175 (TS (ts.getD tq (0,0,0)) k ⟨by omega,by omega,by omega⟩ hk3) rfl (Cb.back0 sr rfl (Qn (v:=(aG (BY (k.2,Gr (ts.getD tq (0,0,0)) k)))) rfl (BN (zs:=BY ((0,0):P2)) (vs:=BY (k.2,Gr (ts.getD tq (0,0,0)) k)) (pv:=[(0,(vN k.2)),(1,(vN (Gr (ts.getD tq (0,0,0)) k)))]) Tryz.zeroValue190 Tryz.underlying190 Tryz.sizeOf3 rfl (Dv k.2 (Gr (ts.getD tq (0,0,0)) k))) rfl (Cb.news1 λb4=>OkE.imp rfl (BC rfl Tryz.sizeOf190 rfl ?_))))
 refine OkE.back (sl sr) (OkE.nil (AC.subF (sL [1,3,5,6,7,8] rfl) (q2 (AJ rfl (AH (v:=(pP b4 1)) (AX (j:=1) rfl rfl Tryz.underlying190 Tryz.sizeOf3 rfl (by decide) rfl) rfl ?_)))))
 refine BD 0 (vN (Gr (ts.getD tq (0,0,0)) k)) Be rfl (AH (v:=(pP b4 0)) (AX (j:=0) rfl rfl Tryz.underlying190 Tryz.sizeOf3 rfl (by decide) rfl) rfl (BD 0 (vN k.2) Be rfl (AH (v:=(aG (BY (Gr (ts.getD tq (0,0,0)) k,k.2)))) (BN (zs:=BY ((0,0):P2)) (vs:=BY (Gr (ts.getD tq (0,0,0)) k,k.2)) (pv:=[(0,(vN (Gr (ts.getD tq (0,0,0)) k))),(1,(vN k.2))]) Tryz.zeroValue190 Tryz.underlying190 Tryz.sizeOf3 rfl (Dv (Gr (ts.getD tq (0,0,0)) k) k.2)) rfl (AH (v:=(Value.tuple #[(vN ((Ac sx.kvs (Gr (ts.getD tq (0,0,0)) k,k.2)).getD 0)),(Value.bool ((Ac sx.kvs (Gr (ts.getD tq (0,0,0)) k,k.2)).isSome))])) (FJ Ev 7 (eV:=vN) (kvs:=sx.kvs) (x:=(Gr (ts.getD tq (0,0,0)) k,k.2)) (z0:=0) (co:=true) rfl rfl Tryz.underlying186 Tryz.zeroValue3 rfl (sx.ok) (Fo (by show (_:Nat)<_;omega) (by show (_:Nat)<_;omega))) rfl (AJ rfl ?_)))))
 refine AH (AS (v:=(vN ((Ac sx.kvs (Gr (ts.getD tq (0,0,0)) k,k.2)).getD 0))) rfl rfl) rfl (AH (AS (v:=(Value.bool ((Ac sx.kvs (Gr (ts.getD tq (0,0,0)) k,k.2)).isSome))) rfl rfl) rfl (asg' rfl (asg' rfl (q6 (sL [1,3,5,6,7,8,9,10] rfl) (q4 ?_)))))
 refine AJ rfl (AH (Bw (c:=(!((Ac sx.kvs (Gr (ts.getD tq (0,0,0)) k,k.2)).isSome))) rfl rfl) rfl (AD.nil (AC.subF (sL [1,3,5,6,7,8,9,35] rfl) (AC.then_ ?_))))
 refine AF.cond rfl (λhc0=>?_) (λhc0=>?_)
 ·simp only [Bool.and_eq_true,Bool.or_eq_true,Bool.and_eq_false_iff,Bool.or_eq_false_iff,Bool.not_eq_true',Bool.not_eq_false',decide_eq_true_eq,decide_eq_false_iff_not] at hc0
  refine q4 (BF 0 EH rfl (Ej rfl Tryz.sizeOf190 rfl (AD.nil (AC.subF (sL [1,3,5,6,7,8,9] rfl) (AC.then_ ?_)))))
  exact AF.ret (AC.then_ret (AC.in_ret (AC.round3_ret (AC.in_ret (AN rfl (BB (i:=1) (cs:=BY (k.2,Gr (ts.getD tq (0,0,0)) k)) rfl rfl Tryz.isAgg190 Tryz.sizeOf190 rfl) (λw hw=>⟨by rw [(hb.stop ho h0 (by rw [hnx,<-hkv];intro h9;rw [show (Ac sx.kvs (NR (k.2,Gr (ts.getD tq (0,0,0)) k))).isSome=false from hc0] at h9;cases h9)).1,hnx],hw.out⟩))))))
 ·simp only [Bool.and_eq_true,Bool.or_eq_true,Bool.and_eq_false_iff,Bool.or_eq_false_iff,Bool.not_eq_true',Bool.not_eq_false',decide_eq_true_eq,decide_eq_false_iff_not] at hc0
  refine AF.skip (AC.then_ (AF.region (AH (v:=(pP b4 1)) (AX (j:=1) rfl rfl Tryz.underlying190 Tryz.sizeOf3 rfl (by decide) rfl) rfl (BD 0 (vN (Gr (ts.getD tq (0,0,0)) k)) Be rfl (AH (v:=(pP b4 0)) (AX (j:=0) rfl rfl Tryz.underlying190 Tryz.sizeOf3 rfl (by decide) rfl) rfl ?_)))))
  refine BD 0 (vN k.2) Be rfl (AH (v:=(aG (BY (Gr (ts.getD tq (0,0,0)) k,k.2)))) (BN (zs:=BY ((0,0):P2)) (vs:=BY (Gr (ts.getD tq (0,0,0)) k,k.2)) (pv:=[(0,(vN (Gr (ts.getD tq (0,0,0)) k))),(1,(vN k.2))]) Tryz.zeroValue190 Tryz.underlying190 Tryz.sizeOf3 rfl (Dv (Gr (ts.getD tq (0,0,0)) k) k.2)) rfl (AJ rfl (Ks rfl Tryz.sizeOf190 rfl (asg' rfl (AD.nil ?_)))))
  exact AC.subF (sL [1,3,5,6,7,8] rfl) (AC.in_normal (AC.round3 (i+1) (Gr (ts.getD tq (0,0,0)) k,k.2) ((Ac sx.kvs (Gr (ts.getD tq (0,0,0)) k,k.2)).getD 0) (⟨by have h9:=hb.succ (by rw [hnx,<-hkv];exact hc0);rw [hnx] at h9;exact h9,by rw [hkv]⟩) (by omega) (sF rfl) (sl sr)))
theorem QM (l:List Nat) (n:Nat) (y:RX (inL l) n) (hn:l.length=n) (hl:n<=1000000000) (w:World) {S:Nat->Prop} (hy:Ro S w y):Calls Tryz.prog 176 #[(Value.slice y.p n y.c)] w (Eo Vj (T9 (T:=3) (z:=1) (cs:=inL l) (n:=n)) S w):=by
 have ly:=DF (W:=w) hy
 refine Ah (args:=[(Value.slice y.p n y.c)]) (L:=[AI y.p (inL l)]) Tryz.func176 rfl rfl (AY rfl) (EV hy Ar) (AF.subF (sL [0] rfl) (q4 (asg' rfl (AD.nilRow 3 1 (AD.nil ?_)))))
 refine q1 (q4 (AJ rfl (AH (v:=(Value.bool y.p.isNone)) (FE rfl rfl Tryz.underlying70) rfl (AD.nil (AC.subF (sL [0,2,4] rfl) ?_)))))
 refine AC.then_ ?_
 refine AF.cond rfl (λhc0=>?_) (λhc0=>?_)
 ·skip
  have h00:=(y.ok.nil (Option.isNone_iff_eq_none.1 hc0)).1
  have hts:l=[]:=List.eq_nil_of_length_eq_zero (by omega)
  refine q4 (asg' rfl (AD.nilRow 3 1 (AD.nil (AC.then_ (AF.ret ?_)))))
  exact AC.then_ret (AN rfl (AQ (v:=(Value.slice none 0 0)) rfl) (λw hw=>(by subst hts;subst h00;exact Iq hw (OX.mk none 0 OwnOk.none) (by exact (sk (sl (sl sr)))) (FQ.own rfl FQ.nil) (by show Value.slice none 0 0=_;rfl))))
 ·skip
  refine AF.skip (q2 (AD.openV (V:=λb1=>(Value.slice (some ⟨b1,0,none⟩) 0 0)) (T:=3) (cs:=[]) (AO rfl) (Ey Tryz.underlying70 Tryz.sizeOf3) rfl (AY rfl) λb1=>AD.asRow0 (z:=1) 0 rfl (by omega) λho_b1=>AJ rfl (AD.appendE0 LN rfl ho_b1 rfl (K_ (k:=2) rfl y.ok) (by rw [Bh,hn,Nat.mul_one]) (PR _) (GR (by omega)) (by omega) rfl λpq cq hq=>?_)))
  exact asg' rfl (AD.nil (AC.subF (sL [0,2] rfl) (AC.then_ (AF.ret (AN rfl (AQ (v:=(Value.slice pq n cq)) rfl) (λw hw=>(Iq hw (OX.mk pq cq hq) (sk (sl (sl sr))) (FQ.own rfl FQ.nil) rfl)))))))
set_option maxHeartbeats 1000000 in
theorem Qb (l:List Nat) (y:RX (inL l) l.length) (hl0:0<l.length) (hl:l.length<=10000000) (w:World) {S:Nat->Prop} (hy:Ro S w y):Calls Tryz.prog 115 #[(Value.slice y.p l.length y.c)] w (Av (RX (inL (E5 l)) (E5 l).length) S w):=by
 have hyc:=y.ok.le
 have ly:=DF (W:=w) hy
 refine Ah (args:=[(Value.slice y.p l.length y.c)]) (L:=[AI y.p (inL l)]) Tryz.func115 rfl rfl (AY rfl) (EV hy Ar) (AF.subF (sL [0] rfl) (q4 (asg' rfl (AD.nil (q2 ?_)))))
 refine asg' rfl (AD.nil (q1 (q4 (AJ rfl (AH (v:=(vN l.length)) (AE rfl Tryz.underlying70) rfl ?_)))))
 refine AJ rfl (AD.nil (AC.subF (sL [0,2,3,8,9] rfl) (AC.then_ (AF.block ?_))))
 refine AF.lp2 (tg λ(i:Nat) (bq:Nat)=>i<=l.length/\bq=ET l i) (tg λ(i:Nat) (bq:Nat)=>[(0,(Value.slice y.p l.length y.c)),(2,(Value.slice none 0 0)),(8,(vN l.length)),(9,(vN i)),(3,(vN bq))]) (tg λ(i:Nat) (bq:Nat)=>[AI y.p (inL l)]) (tg λ(i:Nat) (bq:Nat)=>l.length-i) 0 0 (⟨Nat.zero_le _,rfl⟩) (sF rfl) sr (λi bq hJ=>?_)
 obtain ⟨hi,hb⟩:=hJ
 have hbl:bq<l.length:=by rw [hb];exact PS i hi hl0
 refine q4 (AH (Ad (c:=(decide (i<l.length))) rfl rfl (CB (a:=i) (b:=l.length))) rfl (AD.nil (q1 ?_)))
 refine AF.cond rfl (λhc0=>?_) (λhc0=>?_)
 ·replace hc0:=of_decide_eq_true hc0
  refine AF.skip (q1 (AF.block (q4 (AJ rfl (asg' rfl ?_)))))
  refine q6 (sL [0,2,8,9,3,4] rfl) (Cw [(0,true),(1,true),(2,true),(3,true),(4,true),(5,true),(6,true),(7,true),(8,true),(9,true)] sr (BS rfl (BS rfl (Aw (v:=(pP (pB y.p) (pO y.p+i*1))) rfl (AL (j:=i) rfl rfl y.ok Tryz.underlying70 Tryz.sizeOf3 rfl (by omega)) (Aw rfl (AZ (v:=(vN (l.getD i 0))) (i:=0) rfl rfl (y.ok.ne (by omega)) Be (DL (l:=l) (j:=i) (by omega))) ?_)))))
  refine BS rfl (BS rfl (Aw (v:=(pP (pB y.p) (pO y.p+bq*1))) rfl (AL (j:=bq) rfl rfl y.ok Tryz.underlying70 Tryz.sizeOf3 rfl (by omega)) (Aw rfl (AZ (v:=(vN (l.getD bq 0))) (i:=0) rfl rfl (y.ok.ne (by omega)) Be (DL (l:=l) (j:=bq) (by omega))) (pS' rfl (pS' rfl ?_)))))
  refine OkE.nil (AC.subF (sL [0,2,8,9,3,4,5,6] rfl) (q1 ?_))
  by_cases hs1:l.getD i 0<l.getD bq 0
  ·skip
   refine Cw [(0,true),(1,true),(2,true),(3,true),(4,true),(5,true),(6,true),(7,true),(8,true),(9,true),(10,true),(11,true),(12,true),(13,true),(14,true),(15,true),(16,true),(17,true),(18,true),(19,true),(20,true),(21,true),(22,true),(23,true),(24,true),(25,true),(26,true)] sr (BS rfl (BS rfl (Aw rfl (Ad (c:=true) rfl rfl (decide_eq_true (by omega))) (BS rfl (OkE.skp rfl (AG rfl) rfl rfl ?_)))))
   refine OkE.skp rfl (AG rfl) rfl rfl (OkE.skp rfl (AG rfl) rfl rfl (OkE.skp rfl (AG rfl) rfl rfl (OkE.skp rfl (Bi rfl rfl rfl) rfl rfl (OkE.skp rfl (Bi rfl rfl rfl) rfl rfl (OkE.skp rfl (Bi rfl rfl rfl) rfl rfl ?_)))))
   refine OkE.skp rfl (Bi rfl rfl rfl) rfl rfl (OkE.skp rfl (Bi rfl rfl rfl) rfl rfl (OkE.skp rfl (Bi rfl rfl rfl) rfl rfl (OkE.skp rfl (Bi rfl rfl rfl) rfl rfl (OkE.skp rfl (Bi rfl rfl rfl) rfl rfl (OkE.skp rfl (Bi rfl rfl rfl) rfl rfl ?_)))))
   refine OkE.skp rfl (Bi rfl rfl rfl) rfl rfl (OkE.skp rfl (Bi rfl rfl rfl) rfl rfl (OkE.skp rfl (Bi rfl rfl rfl) rfl rfl (OkE.skp rfl (Bi rfl rfl rfl) rfl rfl (OkE.skp rfl (Bi rfl rfl rfl) rfl rfl (OkE.skp rfl (Bi rfl rfl rfl) rfl rfl ?_)))))
   refine OkE.skp rfl (Bi rfl rfl rfl) rfl rfl (OkE.skp rfl (Bi rfl rfl rfl) rfl rfl (OkE.skp rfl (AG rfl) rfl rfl (Aw (v:=(Value.bool true)) rfl (AT rfl rfl) (OkE.nil (AC.subF (sL [0,2,8,9,3,4,46] rfl) ?_)))))
   refine AC.then_ (AF.cond_true rfl (AF.region (AJ rfl (asg' rfl (AD.nil ?_)))))
   refine AC.subF (sL [0,2,8,9,3,4] rfl) (AC.in_normal (AC.then_ (AF.region (AH (AW (c:=((i+1:Nat):Int)) rfl rfl (AR (a:=i) (b:=1) (by omega))) rfl (AJ rfl ?_)))))
   exact AD.nil (AC.subF (sL [0,2,8,9,3,4] rfl) (AC.round2 (i+1) i (⟨by omega,by first|exact HD hb hs1|exact G8 hb hs2 hc1|exact IU hb hs1 hs2|exact Il hb hs1 hc1⟩) (by omega) (sF rfl) sr))
  ·skip
   by_cases hs2:l.getD i 0=l.getD bq 0
   ·skip
    refine Cw [(0,true),(1,true),(2,true),(3,true),(4,true),(5,true),(6,true),(7,true),(8,true),(9,true),(10,true),(11,true),(12,true),(13,true),(14,true),(15,true),(16,true),(17,true),(18,true),(19,true),(20,true),(21,true),(22,true),(23,true),(24,true),(25,true),(26,true)] sr (BS rfl (BS rfl (Aw rfl (Ad (c:=false) rfl rfl (decide_eq_false (by omega))) (BS rfl (OkE.pas (v:=(vN (l.getD i 0))) rfl (AB rfl) (Ai rfl) rfl rfl ?_)))))
    refine OkE.pas (v:=(vN (l.getD bq 0))) rfl (AB rfl) (Ai rfl) rfl rfl (OkE.pas (v:=(Value.bool true)) rfl (AB rfl) (BJ (c:=true) rfl rfl (decide_eq_true (by omega))) rfl rfl (OkE.pas (v:=(Value.bool true)) rfl (AB rfl) (Ai rfl) rfl rfl (OkE.pas (v:=(Value.slice y.p l.length y.c)) rfl (AB rfl) (Ai rfl) rfl rfl (OkE.pas (v:=(vN i)) rfl (AB rfl) (Ai rfl) rfl rfl (OkE.pas (v:=(vN (i+1))) rfl (AB rfl) (AW (c:=((i+1:Nat):Int)) rfl rfl (AR (a:=i) (b:=1) (by omega))) rfl rfl ?_)))))
    refine OkE.pas (v:=(Value.slice y.p l.length y.c)) rfl (AB rfl) (Ai rfl) rfl rfl (OkE.pas (v:=(vN l.length)) rfl (AB rfl) (AE rfl Tryz.underlying70) rfl rfl (OkE.pas (v:=(vN ((i+1)%l.length))) rfl (AB rfl) (Cg (c:=(((i+1)%l.length:Nat):Int)) rfl rfl (by omega) (K7 (a:=i+1) (b:=l.length))) rfl rfl (OkE.pas (v:=(pP (pB y.p) (pO y.p+((i+1)%l.length)*1))) rfl (AB rfl) (AL (j:=(i+1)%l.length) rfl rfl y.ok Tryz.underlying70 Tryz.sizeOf3 rfl (by first|exact Nat.mod_lt _ hl0|omega)) rfl rfl (OkE.pas (v:=(vN (l.getD ((i+1)%l.length) 0))) rfl (AB rfl) (AZ (v:=(vN (l.getD ((i+1)%l.length) 0))) (i:=0) rfl rfl (y.ok.ne (by first|exact Nat.mod_lt _ hl0|omega)) Be (DL (l:=l) (j:=(i+1)%l.length) (by first|exact Nat.mod_lt _ hl0|omega))) rfl rfl (OkE.pas (v:=(Value.slice y.p l.length y.c)) rfl (AB rfl) (Ai rfl) rfl rfl ?_)))))
    refine OkE.pas (v:=(vN bq)) rfl (AB rfl) (Ai rfl) rfl rfl (OkE.pas (v:=(vN (bq+1))) rfl (AB rfl) (AW (c:=((bq+1:Nat):Int)) rfl rfl (AR (a:=bq) (b:=1) (by omega))) rfl rfl (OkE.pas (v:=(Value.slice y.p l.length y.c)) rfl (AB rfl) (Ai rfl) rfl rfl (OkE.pas (v:=(vN l.length)) rfl (AB rfl) (AE rfl Tryz.underlying70) rfl rfl (OkE.pas (v:=(vN ((bq+1)%l.length))) rfl (AB rfl) (Cg (c:=(((bq+1)%l.length:Nat):Int)) rfl rfl (by omega) (K7 (a:=bq+1) (b:=l.length))) rfl rfl (OkE.pas (v:=(pP (pB y.p) (pO y.p+((bq+1)%l.length)*1))) rfl (AB rfl) (AL (j:=(bq+1)%l.length) rfl rfl y.ok Tryz.underlying70 Tryz.sizeOf3 rfl (by first|exact Nat.mod_lt _ hl0|omega)) rfl rfl ?_)))))
    refine OkE.pas (v:=(vN (l.getD ((bq+1)%l.length) 0))) rfl (AB rfl) (AZ (v:=(vN (l.getD ((bq+1)%l.length) 0))) (i:=0) rfl rfl (y.ok.ne (by first|exact Nat.mod_lt _ hl0|omega)) Be (DL (l:=l) (j:=(bq+1)%l.length) (by first|exact Nat.mod_lt _ hl0|omega))) rfl rfl (OkE.pas (v:=(Value.bool (decide ((l.getD ((i+1)%l.length) 0)<(l.getD ((bq+1)%l.length) 0))))) rfl (AB rfl) (Ad (c:=(decide ((l.getD ((i+1)%l.length) 0)<(l.getD ((bq+1)%l.length) 0)))) rfl rfl (CB (a:=l.getD ((i+1)%l.length) 0) (b:=l.getD ((bq+1)%l.length) 0))) rfl rfl (OkE.pas (v:=(Value.bool (decide ((l.getD ((i+1)%l.length) 0)<(l.getD ((bq+1)%l.length) 0))))) rfl (AB rfl) (AT rfl rfl) rfl rfl (Aw (v:=(Value.bool (decide ((l.getD ((i+1)%l.length) 0)<(l.getD ((bq+1)%l.length) 0))))) rfl (AV rfl rfl) (OkE.nil (AC.subF (sL [0,2,8,9,3,4,46] rfl) ?_)))))
    refine AC.then_ ?_
    refine AF.cond rfl (λhc1=>?_) (λhc1=>?_)
    ·replace hc1:=of_decide_eq_true hc1
     refine AF.region (AJ rfl (asg' rfl (AD.nil (AC.subF (sL [0,2,8,9,3,4] rfl) (AC.in_normal ?_)))))
     exact AC.then_ (AF.region (AH (AW (c:=((i+1:Nat):Int)) rfl rfl (AR (a:=i) (b:=1) (by omega))) rfl (AJ rfl (AD.nil (AC.subF (sL [0,2,8,9,3,4] rfl) (AC.round2 (i+1) i (⟨by omega,by first|exact HD hb hs1|exact G8 hb hs2 hc1|exact IU hb hs1 hs2|exact Il hb hs1 hc1⟩) (by omega) (sF rfl) sr))))))
    ·replace hc1:=of_decide_eq_false hc1
     refine AF.skip (AC.in_normal (AC.then_ (AF.region (AH (AW (c:=((i+1:Nat):Int)) rfl rfl (AR (a:=i) (b:=1) (by omega))) rfl (AJ rfl ?_)))))
     exact AD.nil (AC.subF (sL [0,2,8,9,3,4] rfl) (AC.round2 (i+1) bq (⟨by omega,by first|exact HD hb hs1|exact G8 hb hs2 hc1|exact IU hb hs1 hs2|exact Il hb hs1 hc1⟩) (by omega) (sF rfl) sr))
   ·skip
    refine Cw [(0,true),(1,true),(2,true),(3,true),(4,true),(5,true),(6,true),(7,true),(8,true),(9,true),(10,true),(11,true),(12,true),(13,true),(14,true),(15,true),(16,true),(17,true),(18,true),(19,true),(20,true),(21,true),(22,true),(23,true),(24,true),(25,true),(26,true)] sr (BS rfl (BS rfl (Aw rfl (Ad (c:=false) rfl rfl (decide_eq_false (by omega))) (BS rfl (OkE.pas (v:=(vN (l.getD i 0))) rfl (AB rfl) (Ai rfl) rfl rfl ?_)))))
    refine OkE.pas (v:=(vN (l.getD bq 0))) rfl (AB rfl) (Ai rfl) rfl rfl (OkE.pas (v:=(Value.bool false)) rfl (AB rfl) (BJ (c:=false) rfl rfl (decide_eq_false (by omega))) rfl rfl (OkE.pas (v:=(Value.bool false)) rfl (AB rfl) (Ai rfl) rfl rfl (OkE.skp rfl (AG rfl) rfl rfl (OkE.skp rfl (AG rfl) rfl rfl (OkE.skp rfl (AG rfl) rfl rfl ?_)))))
    refine OkE.skp rfl (AG rfl) rfl rfl (OkE.skp rfl (AG rfl) rfl rfl (OkE.skp rfl (AG rfl) rfl rfl (OkE.skp rfl (AG rfl) rfl rfl (OkE.skp rfl (AG rfl) rfl rfl (OkE.skp rfl (AG rfl) rfl rfl ?_)))))
    refine OkE.skp rfl (AG rfl) rfl rfl (OkE.skp rfl (AG rfl) rfl rfl (OkE.skp rfl (AG rfl) rfl rfl (OkE.skp rfl (AG rfl) rfl rfl (OkE.skp rfl (AG rfl) rfl rfl (OkE.skp rfl (AG rfl) rfl rfl ?_)))))
    refine OkE.skp rfl (AG rfl) rfl rfl (OkE.skp rfl (AG rfl) rfl rfl (OkE.pas (v:=(Value.bool false)) rfl (AB rfl) (AV rfl rfl) rfl rfl (Aw (v:=(Value.bool false)) rfl (AV rfl rfl) (OkE.nil (AC.subF (sL [0,2,8,9,3,4,46] rfl) ?_)))))
    refine AC.then_ (AF.cond_false rfl (AF.skip (AC.in_normal (AC.then_ (AF.region ?_)))))
    exact AH (AW (c:=((i+1:Nat):Int)) rfl rfl (AR (a:=i) (b:=1) (by omega))) rfl (AJ rfl (AD.nil (AC.subF (sL [0,2,8,9,3,4] rfl) (AC.round2 (i+1) bq (⟨by omega,by first|exact HD hb hs1|exact G8 hb hs2 hc1|exact IU hb hs1 hs2|exact Il hb hs1 hc1⟩) (by omega) (sF rfl) sr))))
 ·replace hc0:=of_decide_eq_false hc0
  have hb2:bq=ET l l.length:=by rw [hb,show i=l.length by omega]
  refine AF.exit (AC.then_exit (AC.round2_exit (AC.in_exit (q1 (Cw [(0,true),(1,true),(2,true),(4,true),(5,true),(6,true),(3,false),(7,false),(8,false),(9,true)] sr ?_)))))
  refine BS rfl (BS rfl (Aw (v:=(Value.slice (NS y.p bq y.c 1) (l.length-bq) (y.c-bq))) rfl (H_ (i:=bq) rfl rfl Tryz.underlying70 Tryz.sizeOf3 (by omega) y.ok.le) (BS rfl (BS rfl (Aw (v:=(Value.slice y.p bq y.c)) rfl (Do (m:=bq) rfl rfl Tryz.underlying70 Tryz.sizeOf3 (by omega)) ?_)))))
  refine OkE.imp rfl (AD.callL (S:=S) (V:=Vj) (LW:=T9 (T:=3) (z:=1) (cs:=inL (l.drop bq)) (n:=l.length-bq)) (args:=[(Value.slice (NS y.p bq y.c 1) (l.length-bq) (y.c-bq))]) Tryz.call176 (λw hw=>QM (l.drop bq) (l.length-bq) ⟨NS y.p bq y.c 1,y.c-bq,Oi y.ok hbl⟩ (List.length_drop ..) (by omega) w (YP (inS hw 0 rfl ly) hbl)) rfl λcl hcl=>OkE.back (sl sr) (OkE.imp rfl (AD.appendS0 (cs2:=inL (l.drop bq++l.take bq)) (news:=inL (l.take bq)) LN rfl cl.ok (by rw [Bh,List.length_drop,Nat.mul_one]) rfl (Xx (k:=1) rfl y.ok (by omega)) (by rw [Bh,List.length_take,Nat.mul_one];omega) (PR _) (GR (by omega)) (by omega) (Cr _ _).symm rfl λpt ct ht=>OkE.back (sl sr) ?_)))
  refine OkE.imp rfl (ck' Tryz.call83 (Tj pt ((l.length-bq)+bq) ct ht.row.le) rfl (OkE.back (sl sr) (pS' rfl (OkE.nil (AC.subF (sL [0,2,8,9,3] rfl) ?_)))))
  exact AC.then_ (AF.ret (AN rfl (AQ (v:=(Value.slice pt ((l.length-bq)+bq) ((l.length-bq)+bq))) rfl) (λw hw=>(by rw [show (E5 l).length=(l.length-bq)+bq by rw [L0];omega,show E5 l=l.drop bq++l.take bq by rw [E5,hb2]];exact Wg hw 0 rfl ht (by rw [Bh,List.length_append,List.length_drop,List.length_take,Nat.mul_one];omega) rfl))))
theorem Nk (a b:List Nat) (x:RX (inL a) a.length) (y:RX (inL b) b.length) (hal:a.length<=10000000) (w:World) {S:Nat->Prop} (hx:Ro S w x) (hy:Ro S w y):Calls Tryz.prog 117 #[(Value.slice x.p a.length x.c),(Value.slice y.p b.length y.c)] w (An w (vI (cmpL a b))):=by
 have lx:=DF (W:=w) hx
 have ly:=DF (W:=w) hy
 refine Ah (args:=[(Value.slice x.p a.length x.c),(Value.slice y.p b.length y.c)]) (L:=[AI x.p (inL a),AI y.p (inL b)]) Tryz.func117 rfl rfl (AY rfl) (EV hx (EV hy Ar)) (AF.subF (sL [0,1] rfl) (q4 (asg' rfl (AD.nil (q1 ?_)))))
 refine q4 (AJ rfl (AH (v:=(vN a.length)) (AE rfl Tryz.underlying70) rfl (AJ rfl (AD.nil (AC.then_ ?_)))))
 refine AF.block ?_
 refine AF.lp1 (tg λ(i:Nat)=>i<=a.length/\i<=b.length/\cmpL a b=cmpL (a.drop i) (b.drop i)) (tg λ(i:Nat)=>[(0,(Value.slice x.p a.length x.c)),(1,(Value.slice y.p b.length y.c)),(9,(Value.slice x.p a.length x.c)),(10,(vN a.length)),(11,(vN i))]) (tg λ(i:Nat)=>[AI x.p (inL a),AI y.p (inL b)]) (tg λ(i:Nat)=>a.length-i) 0 (⟨Nat.zero_le _,Nat.zero_le _,rfl⟩) (sF rfl) sr (λi hJ=>?_)
 obtain ⟨hi1,hi2,he⟩:=hJ
 refine q4 (AH (Ad (c:=(decide (i<a.length))) rfl rfl (CB (a:=i) (b:=a.length))) rfl (AD.nil (q1 ?_)))
 refine AF.cond rfl (λhc0=>?_) (λhc0=>?_)
 ·replace hc0:=of_decide_eq_true hc0
  refine AF.skip (q1 (AF.block (q4 (AJ rfl (AH (v:=(pP (pB x.p) (pO x.p+i*1))) (AL (j:=i) rfl rfl x.ok Tryz.underlying70 Tryz.sizeOf3 rfl (by omega)) rfl ?_)))))
  refine AH (AZ (v:=(vN (a.getD i 0))) (i:=0) rfl rfl (x.ok.ne (by omega)) Be (DL (l:=a) (j:=i) (by omega))) rfl (asg' rfl (asg' rfl (q6 (sL [0,1,9,10,11,5,6] rfl) (q4 (AJ rfl ?_)))))
  refine AJ rfl (AH (v:=(vN b.length)) (AE rfl Tryz.underlying70) rfl (AH (C_ (c:=(decide (b.length<=i))) rfl rfl (S7 (a:=b.length) (b:=i))) rfl (AD.nil (AC.subF (sL [0,1,9,10,11,5,6,19] rfl) (AC.then_ ?_)))))
  refine AF.cond rfl (λhc1=>?_) (λhc1=>?_)
  ·replace hc1:=of_decide_eq_true hc1
   refine q4 (asg' rfl (AD.nil (AC.then_ (AF.ret (AC.then_ret ?_)))))
   exact AC.in_ret (AC.then_ret (AC.round1_ret (AC.in_ret (AC.then_ret (AN rfl (AQ (v:=(vI 1)) rfl) (λw hw=>⟨by rw [he,Qw hc0 (by omega)]<;>rfl,hw.out⟩))))))
  ·replace hc1:=of_decide_eq_false hc1
   obtain ⟨cc,hcc⟩:∃q,q=DZ (a.getD i 0) (b.getD i 0):=⟨_,rfl⟩
   have h3:=Gf (a.getD i 0) (b.getD i 0)
   rw [<-hcc] at h3
   refine AF.skip (q2 (AJ rfl (AJ rfl (AH (v:=(pP (pB y.p) (pO y.p+i*1))) (AL (j:=i) rfl rfl y.ok Tryz.underlying70 Tryz.sizeOf3 rfl (by omega)) rfl (AH (AZ (v:=(vN (b.getD i 0))) (i:=1) rfl rfl (y.ok.ne (by omega)) Be (DL (l:=b) (j:=i) (by omega))) rfl ?_)))))
   refine asg' rfl (q3 (sL [0,1,9,10,11,5,6,7] rfl) (AJ rfl (AJ rfl (ck' Tryz.call157 (Ky (a.getD i 0) (b.getD i 0)) rfl (AD.retell (k:=26) (u:=(vI cc)) rfl (by rw [hcc]) ?_)))))
   refine asg' rfl (q3 (sL [0,1,9,10,11,5,8] rfl) (AJ rfl (AH (B7 (c:=(decide (cc≠(0:Int)))) rfl rfl rfl) rfl (AD.nil (AC.subF (sL [0,1,9,10,11,5,8,28] rfl) ?_)))))
   refine AC.then_ ?_
   refine AF.cond rfl (λhc2=>?_) (λhc2=>?_)
   ·replace hc2:=of_decide_eq_true hc2
    refine q4 (AJ rfl (asg' rfl (AD.nil (AC.subF (sL [0,1,9,10,11,5,8,4] rfl) (AC.then_ ?_)))))
    exact AF.ret (AC.in_ret (AC.then_ret (AC.round1_ret (AC.in_ret (AC.then_ret (AN rfl (AQ (v:=(vI cc)) rfl) (λw hw=>⟨by rw [he,Kk hc0 (by omega)];rcases h3 with ⟨h4,h5⟩|⟨h4,h5⟩|⟨h4,h5⟩;rw [if_pos h4,h5];rw [if_neg (by omega),if_pos h4,h5];exact absurd h5 hc2,hw.out⟩)))))))
   ·replace hc2:=of_decide_eq_false hc2
    refine AF.skip (AC.in_normal (AC.then_ (AF.region (AH (AW (c:=((i+1:Nat):Int)) rfl rfl (AR (a:=i) (b:=1) (by omega))) rfl (AJ rfl ?_)))))
    exact AD.nil (AC.subF (sL [0,1,9,10,11,5,8] rfl) (AC.round1 (i+1) (⟨by omega,by omega,by rw [he,Kk hc0 (by omega)];rcases h3 with ⟨h4,h5⟩|⟨h4,h5⟩|⟨h4,h5⟩;(exfalso;omega);(exfalso;omega);rw [if_neg (by omega),if_neg (by omega)]⟩) (by omega) (sF rfl) sr))
 ·replace hc0:=of_decide_eq_false hc0
  refine AF.exit (AC.then_exit (AC.round1_exit (AC.in_exit (q1 (q4 ?_)))))
  refine AJ rfl (AH (v:=(vN a.length)) (AE rfl Tryz.underlying70) rfl (AJ rfl (AH (v:=(vN b.length)) (AE rfl Tryz.underlying70) rfl (AH (Ad (c:=(decide (a.length<b.length))) rfl rfl (CB (a:=a.length) (b:=b.length))) rfl (AD.nil ?_)))))
  refine AC.subF (sL [0,1,9,10,11,35] rfl) (AC.then_ ?_)
  refine AF.cond rfl (λhc3=>?_) (λhc3=>?_)
  ·replace hc3:=of_decide_eq_true hc3
   exact q4 (asg' rfl (AD.nil (AC.then_ (AF.ret (AC.then_ret (AN rfl (AQ (v:=(vI (-1:Int))) rfl) (λw hw=>⟨by rw [he,L9 (by omega) hi1 hi2,if_pos hc3]<;>rfl,hw.out⟩)))))))
  ·replace hc3:=of_decide_eq_false hc3
   exact AF.skip (q2 (asg' rfl (AD.nil (AC.then_ (AF.ret (AN rfl (AQ (v:=(vI 0)) rfl) (λw hw=>⟨by rw [he,L9 (by omega) hi1 hi2,if_neg hc3]<;>rfl,hw.out⟩)))))))
end
end Go.Proofs.YtpgncndhhhllfaaGreatDoor
