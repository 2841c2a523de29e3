import Derived.Test.YtpgncndhhhllfaaGreatDoorPart06
import Derived.Test.YtpgncndhhhllfaaGreatDoorPart10
namespace Go.Proofs.YtpgncndhhhllfaaGreatDoor
open Go Go.RowKit Go.Proofs.Tryz
set_option linter.unusedVariables false
set_option linter.unusedSimpArgs false
section
set_option maxRecDepth 100000
theorem IV (n:Nat) (hn:n<18446744073709551616) (w:World)  :Calls Tryz.prog 104 #[(vK .u64 n)] w (Al w (aG (AY n))):=by
 refine Aa (args:=[(vK .u64 n)]) Tryz.func104 rfl rfl (AV rfl) (AE.subF (sL [0] rfl) (q4 (al E9 rfl λb1=>AD.nil (q2 ?_))))
 refine AQ rfl (AK (v:=(aG ([(vK .u64 n),(Value.string (Bc 0))]))) (AU (zs:=AY 0) (vs:=[(vK .u64 n),(Value.string (Bc 0))]) (pv:=[(0,(vK .u64 n))]) (places:=[(0,1),(1,1)]) Tryz.zeroValue42 Tryz.underlying42 (λw=>by simp [Tryz.sizeOf9,Tryz.sizeOf40]) rfl rfl) rfl (AD.retell (k:=4) (u:=(aG (AY n))) rfl (by rw [DE hn];rfl) (A8 rfl Tryz.sizeOf42 rfl (AD.nil (AC.subF (sL [2] rfl) ?_)))))
 exact AC.then_ (AE.ret (AJ rfl (Au (i:=0) (cs:=AY n) rfl rfl Tryz.isAgg42 Tryz.sizeOf42 rfl) (λw hw=>⟨rfl,hw.out⟩)))
theorem Ji  :Instr.fill ([(0,1),(1,1)].toArray[·]?) (AY 0).toArray []=some (AY 0).toArray:=by kernel_rfl
theorem Od (a:Nat) (w:World)  :Calls Tryz.prog 167 #[(aG (AY a))] w (Al w (Value.bool (decide (a=0)))):=by
 refine Aa (args:=[(aG (AY a))]) Tryz.func167 rfl rfl (AV rfl) (AE.subF (sL [0] rfl) (q4 (BU (cs:=AY a) rfl λb1=>asg' rfl (q3 (sL [1,2] rfl) ?_))))
 refine BG 0 Br rfl (AK (v:=(aG (AY 0))) (AU (zs:=AY 0) (vs:=AY 0) (pv:=[]) (places:=[(0,1),(1,1)]) Tryz.zeroValue42 Tryz.underlying42 (λw=>by simp [Tryz.sizeOf9,Tryz.sizeOf40]) rfl (Ji )) rfl (AK (B1 (c:=(decide (a=0))) rfl rfl Tryz.eqGuardType42 (GH 9998 a 0)) rfl (asg' rfl (AD.nil (AC.subF (sL [2] rfl) ?_)))))
 exact AC.then_ (AE.ret (AJ rfl (AS (v:=(Value.bool (decide (a=0)))) rfl) (λw hw=>⟨rfl,hw.out⟩)))
theorem Cu (v:Nat) (hv:nw v<=1099511627776) (w:World)  :Calls Tryz.prog 111 #[(aG (AY v))] w (λe w'=>∃b,e=.returned (.slice (some ⟨b,0,none⟩) (nw v) (Ay v).length)/\Dz w.heap.size w w'/\w.heap.size<=b/\w'.heap[b]?=some (.cells (Ao (Ay v)).toArray 97 (0,0))):=by
 refine Aa (args:=[(aG (AY v))]) Tryz.func111 rfl rfl (AV rfl) (AE.subF (sL [0] rfl) (q4 (BU (cs:=AY v) rfl λb1=>asg' rfl (q6 (sL [1,2] rfl) ?_))))
 refine q4 (AK (v:=(pP b1 1)) (AA rfl Tryz.underlying42 rfl Tryz.sizeOf9 rfl) rfl (BJ 0 (Value.string (Bc v)) Pg rfl (AK (BV (c:=(decide (v<18446744073709551616))) rfl rfl B_) rfl (AD.nil (AC.subF (sL [1,2,8] rfl) ?_)))))
 refine AC.then_ ?_
 refine AE.cond rfl (λhc0=>?_) (λhc0=>?_)
 ·replace hc0:=of_decide_eq_true hc0
  refine q4 (AK (v:=(pP b1 0)) (AA rfl Tryz.underlying42 rfl Tryz.sizeOf40 rfl) rfl (BJ 0 (vK .u64 (Bs v)) FV rfl (AD.retell (k:=10) (u:=(vK .u64 v)) rfl (by rw [BY hc0]) (AK (A6 (c:=((v%4294967296:Nat):Int)) rfl Tryz.underlying40 Tryz.underlying97 Du) rfl (AK (v:=(pP b1 0)) (AA rfl Tryz.underlying42 rfl Tryz.sizeOf40 rfl) rfl ?_)))))
  refine BJ 0 (vK .u64 (Bs v)) FV rfl (AD.retell (k:=13) (u:=(vK .u64 v)) rfl (by rw [BY hc0]) (AK (Cc (s:=32) (c:=((v/4294967296:Nat):Int)) rfl rfl rfl (by decide) (FA (a:=v) (s:=32))) rfl (AK (A6 (c:=((v/4294967296:Nat):Int)) rfl Tryz.underlying40 Tryz.underlying97 (CR (by omega))) rfl (AD.openV (V:=λb2=>(Value.slice (some ⟨b2,0,none⟩) 2 2)) (T:=97) (cs:=Ao ([v%4294967296,v/4294967296])) (AW rfl) (BI (cs:=Ao ([v%4294967296,v/4294967296])) (pv:=[(0,(vK .u32 (v%4294967296))),(1,(vK .u32 (v/4294967296)))]) Tryz.underlying184 Tryz.sizeOf97 Tryz.zeroValue97 (by decide) (by decide) rfl (by kernel_rfl)) rfl (AV rfl) λb2=>CN Tryz.call161 (λw hw=>Ry _ 2 2 ([v%4294967296,v/4294967296]) (W32.cons (by omega) (W32.cons (by omega) (W32.nil))) (by simp) (by simp) (by simp;try omega) w (hw.get (i:=0) rfl)) rfl ?_))))
  refine asg' rfl (AD.nil (AC.subF (sL [1,2] rfl) (AC.then_ (AE.ret (AC.then_ret ?_)))))
  have hpad:Ay v=[v%4294967296,v/4294967296]:=by simp [Ay,hc0]
  have hnw:nw v=DY [v%4294967296,v/4294967296] 2:=by rw [<-No (TM hc0) (m:=2) (by simp),<-O5 v,hpad];simp [val];congr 1;omega
  have hret:∀b:Nat,(Ending.returned (Value.slice (some ⟨b,0,none⟩) (DY ([v%4294967296,v/4294967296]) 2) 2))=.returned (Value.slice (some ⟨b,0,none⟩) (nw v) (Ay v).length):=λb=>by rw [hnw,hpad];rfl
  replace hret:=hret b2
  have hcells:(some (Obj.cells (Ao ([v%4294967296,v/4294967296])).toArray 97 (0,0)))=some (Obj.cells (Ao (Ay v)).toArray 97 (0,0)):=by rw [hpad]
  exact AJ rfl (AS (v:=(Value.slice (some ⟨b2,0,none⟩) (DY ([v%4294967296,v/4294967296]) 2) 2)) rfl) (λw hw=>⟨b2,hret,hw.out,hw.fresh (i:=0) rfl,(hw.get (i:=0) rfl).trans hcells⟩)
 ·replace hc0:=of_decide_eq_false hc0
  refine AE.skip (q2 (AK (v:=(pP b1 1)) (AA rfl Tryz.underlying42 rfl Tryz.sizeOf9 rfl) rfl (BJ 0 (Value.string (Bc v)) Pg rfl (AK (v:=(vN ((Bc v).size))) (Jt rfl Tryz.underlying9) rfl (AD.retell (k:=20) (u:=(vN (4*nw v))) rfl (by rw [EQ hc0,Io,Bt];rfl) ?_)))))
  refine AK (EH (c:=(((4*nw v)/4:Nat):Int)) rfl rfl (by omega) (ET (a:=4*nw v) (b:=4) (by omega))) rfl (AD.retell (k:=21) (u:=(vN (nw v))) rfl (by rw [Nat.mul_div_cancel_left _ (by omega)]) (AD.openV (V:=λb2=>(Value.slice (some ⟨b2,0,none⟩) (nw v) (nw v))) (T:=97) (cs:=Ao (List.replicate (nw v) 0)) (AW rfl) (Cp (m:=nw v) (c:=nw v) rfl rfl (by omega) (by omega)) rfl (AV rfl) λb2=>asg' rfl (q6 (sL [1,2,3] rfl) (q4 ?_))))
  refine AQ rfl (AK (v:=(vN (nw v))) (AF rfl Tryz.underlying184) rfl (AQ rfl (AD.nil (AC.subF (sL [1,2,3,24,25] rfl) (AC.then_ ?_)))))
  refine AE.block ?_
  refine AE.lp2 (tg λ(i:Nat) (os:List Nat)=>i<=nw v/\os.length=nw v/\os.take i=(AP v).take i/\∀j,i<=j->os.getD j 0=0) (tg λ(i:Nat) (os:List Nat)=>[(1,(pP b1 0)),(2,(Value.slice none 0 0)),(3,(Value.slice (some ⟨b2,0,none⟩) (nw v) (nw v))),(24,(vN (nw v))),(25,(vN i))]) (tg λ(i:Nat) (os:List Nat)=>[Ad b2 97 (Ao os),Ad b1 42 (AY v)]) (tg λ(i:Nat) (os:List Nat)=>nw v-i) 0 (List.replicate (nw v) 0) (⟨Nat.zero_le _,by simp,by simp,λj _=>by simp [List.getD_eq_getElem?_getD,List.getElem?_replicate];split<;>rfl⟩) (sF rfl) sr (λi os hJ=>?_)
  obtain ⟨hin,hl,ht,h0⟩:=hJ
  refine q4 (AK (Ai (c:=(decide (i<(nw v)))) rfl rfl (CI (a:=i) (b:=nw v))) rfl (AD.nil (q1 ?_)))
  refine AE.cond rfl (λhc1=>?_) (λhc1=>?_)
  ·replace hc1:=of_decide_eq_true hc1
   refine AE.skip (q1 (AE.block (q4 (AQ rfl (asg' rfl ?_)))))
   refine q3 (sL [1,2,3,24,25,4] rfl) (AQ rfl (AD.nil (AC.then_ (AE.block ?_))))
   refine AE.lp2 (tg λ(k:Nat) (xs:List Nat)=>k<=4/\xs=os.set i ((AP v).getD i 0%256^k)) (tg λ(k:Nat) (xs:List Nat)=>[(1,(pP b1 0)),(2,(Value.slice none 0 0)),(3,(Value.slice (some ⟨b2,0,none⟩) (nw v) (nw v))),(24,(vN (nw v))),(25,(vN i)),(4,(vN i)),(28,(vN k))]) (tg λ(k:Nat) (xs:List Nat)=>[Ad b2 97 (Ao xs),Ad b1 42 (AY v)]) (tg λ(k:Nat) (xs:List Nat)=>4-k) 0 os (⟨by omega,by rw [Nat.pow_zero,Nat.mod_one];exact RG (h0 i (Nat.le_refl _))⟩) (sF rfl) sr (λk xs hJ=>?_)
   obtain ⟨hk,hxs⟩:=hJ
   refine q4 (AK (Ai (c:=(decide (k<4))) rfl rfl (CI (a:=k) (b:=4))) rfl (AD.nil (q1 ?_)))
   refine AE.cond rfl (λhc2=>?_) (λhc2=>?_)
   ·replace hc2:=of_decide_eq_true hc2
    refine AE.skip (q1 (AE.block (q4 (AQ rfl (asg' rfl ?_)))))
    refine AD.nil (AC.subF (sL [1,2,3,24,25,4,28,5] rfl) (AC.then_ (CS [(0,true),(1,true),(2,true),(4,true),(5,true),(6,true),(7,true),(8,true),(9,true),(10,true),(11,true),(12,true),(13,true),(14,true),(3,false),(15,true),(16,true),(17,false)] (sl sr) ?_)))
    have hi:i<nw v:=hc1
    have hxi:xs.getD i 0=(AP v).getD i 0%256^k:=by rw [hxs];simp [hl,hi]
    have hxl:xs.length=nw v:=by rw [hxs];simp [hl]
    have hby:(AP v).getD i 0/256^k%256<256:=Nat.mod_lt _ (by omega)
    have hget:(Bc v)[4*i+k]?=some (UInt8.ofNat ((AP v).getD i 0/256^k%256)):=by rw [EQ hc0,Pa (by rw [Bt];show 4*i+k<4*nw v;omega),FP _ _ _ hi hc2]
    have hw32:xs.getD i 0<4294967296:=by rw [hxi];exact Nat.lt_of_le_of_lt (Nat.mod_le _ _) ((Bh v).getD i)
    refine BT rfl (BT rfl (Ap (v:=(pP b2 i)) rfl (AM (j:=i) rfl rfl Tryz.underlying184 Tryz.sizeOf97 rfl (by omega) (by simp)) (Ap (v:=(pP b1 1)) rfl (AA rfl Tryz.underlying42 rfl Tryz.sizeOf9 rfl) (Ba 0 (Value.string (Bc v)) Pg rfl (BT rfl ?_)))))
    refine Ap rfl (DQ (c:=((4*i:Nat):Int)) rfl rfl (Et (a:=4) (b:=i) (by omega))) (BT rfl (Ap rfl (Ac (c:=(((4*i)+k:Nat):Int)) rfl rfl (Ae (a:=4*i) (b:=k) (by omega))) (Ap (v:=(vK .u8 ((AP v).getD i 0/256^k%256))) rfl (Gt (j:=4*i+k) (m:=(AP v).getD i 0/256^k%256) rfl rfl Tryz.underlying9 hget hby) (Ap rfl (A6 (c:=(((AP v).getD i 0/256^k%256:Nat):Int)) rfl Tryz.underlying5 Tryz.underlying97 (CR (by omega))) (BT rfl ?_)))))
    refine Ap rfl (DQ (c:=((8*k:Nat):Int)) rfl rfl (Et (a:=8) (b:=k) (by omega))) (Ap (v:=(vK .u32 ((AP v).getD i 0/256^k%256*2^(8*k)))) rfl (Fa (s:=8*k) rfl rfl rfl (show 8*k<=32 by omega) (RM (O7 hc2))) (OkE.imp rfl (AK (AL (i:=0) (v:=(vK .u32 (xs.getD i 0))) rfl rfl Tryz.isAgg97 (BD (xs:=xs) (j:=i) (by omega))) rfl (OkE.back (sl sr) (Ap rfl (H7 (c:=(((AP v).getD i 0%256^(k+1):Nat):Int)) rfl rfl (IY hw32 (O7 hc2) (QL hxi))) ?_)))))
    refine Ap (v:=(pP b2 i)) rfl (AM (j:=i) rfl rfl Tryz.underlying184 Tryz.sizeOf97 rfl (by omega) (by simp)) (OkE.imp rfl (AD.store' (i:=0) (off:=i) (vs:=[(vK .u32 ((AP v).getD i 0%256^(k+1)))]) (cs':=Ao (xs.set i ((AP v).getD i 0%256^(k+1)))) (L':=[Ad b2 97 (Ao (xs.set i ((AP v).getD i 0%256^(k+1)))),Ad b1 42 (AY v)]) (AW rfl) rfl rfl rfl rfl rfl Tryz.sizeOf97 rfl (CL (BL _) (by omega)) (B2 (by omega)) rfl (OkE.back (sl sr) (OkE.nil (AC.subF (sL [1,2,3,24,25,4,28] rfl) ?_)))))
    refine AC.in_normal (AC.then_ (AE.region (AK (Ac (c:=((k+1:Nat):Int)) rfl rfl (Ae (a:=k) (b:=1) (by omega))) rfl (AQ rfl (AD.nil ?_)))))
    exact AC.subF (sL [1,2,3,24,25,4,28] rfl) (AC.round2 (k+1) (xs.set i ((AP v).getD i 0%256^(k+1))) (⟨by omega,by rw [hxs,List.set_set]⟩) (by omega) (sF rfl) sr)
   ·replace hc2:=of_decide_eq_false hc2
    refine AE.exit (AC.then_exit (AC.round2_exit (AC.in_exit (AC.in_normal (AC.then_ ?_)))))
    refine AE.region (AK (Ac (c:=((i+1:Nat):Int)) rfl rfl (Ae (a:=i) (b:=1) (by omega))) rfl (AQ rfl (AD.nil (AC.subF (sL [1,2,3,24,25,4,28] rfl) ?_))))
    have hst:=OA (ws:=AP v) (xs:=xs) hl rfl hc1 ht h0 (by rw [hxs,show k=4 by omega];congr 1;exact Nat.mod_eq_of_lt ((Bh v).getD i))
    exact AC.round2 (i+1) xs (⟨by omega,hst.1,hst.2.1,hst.2.2⟩) (by omega) (sF rfl) sr
  ·replace hc1:=of_decide_eq_false hc1
   refine AE.exit (AC.then_exit (AC.round2_exit (AC.in_exit (q2 (AQ rfl ?_)))))
   refine asg' rfl (AD.nil (AC.subF (sL [1,2,3,24,25] rfl) (AC.then_ (AE.ret ?_))))
   have hpad:Ay v=AP v:=by simp [Ay,hc0]
   have hos:os=AP v:=SB hl rfl hc1 ht
   have hret:∀b:Nat,(Ending.returned (Value.slice (some ⟨b,0,none⟩) (nw v) (nw v)))=.returned (Value.slice (some ⟨b,0,none⟩) (nw v) (Ay v).length):=λb=>by rw [hpad];rfl
   replace hret:=hret b2
   have hcells:(some (Obj.cells (Ao os).toArray 97 (0,0)))=some (Obj.cells (Ao (Ay v)).toArray 97 (0,0)):=by rw [hpad,hos]
   exact AJ rfl (AS (v:=(Value.slice (some ⟨b2,0,none⟩) (nw v) (nw v))) rfl) (λw hw=>⟨b2,hret,hw.out,hw.fresh (i:=0) rfl,(hw.get (i:=0) rfl).trans hcells⟩)
end
section
set_option maxRecDepth 100000
theorem H6 (b m c:Nat) (bs:List Nat) (hbs:W32 bs) (hm:m<=bs.length) (hc:m<=c) (hL:c<4398046511104) (w:World) (hb:w.heap[b]?=some (.cells (Ao bs).toArray 97 (0,0))):Calls Tryz.prog 110 #[(Value.slice (some ⟨b,0,none⟩) m c)] w (Al w (aG (AY (val (bs.take m))))):=by
 have hle:=IN bs m
 have hval:=It bs m
 have hwd:=Hr hbs hm
 have hnw:=No hbs hm
 generalize hK:DY bs m=K at *
 refine Aa (args:=[(Value.slice (some ⟨b,0,none⟩) m c)]) Tryz.func110 rfl rfl (AV rfl) (AE.subF (sL [0] rfl) (q4 (al E9 rfl λb1=>AD.nil (q2 ?_))))
 refine AQ rfl (CN Tryz.call161 (λw hw=>Ry _ m c bs hbs (by omega) (by omega) (by omega) w (hw.old (by simp) hb)) rfl (AD.retell (k:=10) (u:=(Value.slice (some ⟨b,0,none⟩) K c)) rfl (by rw [hK]) (asg' rfl (q6 (sL [0,2] rfl) (q4 ?_)))))
 refine AQ rfl (AK (v:=(vN K)) (AF rfl Tryz.underlying184) rfl (AK (FH (c:=(decide (K<=2))) rfl rfl (S_ (a:=K) (b:=2))) rfl (AD.nil (AC.subF (sL [0,2,13] rfl) (AC.then_ ?_)))))
 refine AE.cond rfl (λhc0=>?_) (λhc0=>?_)
 ·replace hc0:=of_decide_eq_true hc0
  refine q4 (asg' rfl (AD.nil (q1 (q4 (AQ rfl ?_)))))
  refine AK (v:=(vN K)) (AF rfl Tryz.underlying184) rfl (AQ rfl (AD.nil (AC.then_ (AE.block ?_))))
  refine AE.lp2 (tg λ(i:Nat) (n:Nat)=>i<=K/\n=val (bs.take i)) (tg λ(i:Nat) (n:Nat)=>[(0,(Value.slice (some ⟨b,0,none⟩) K c)),(2,(pP b1 0)),(14,(Value.slice (some ⟨b,0,none⟩) K c)),(15,(vN K)),(16,(vN i)),(3,(vK .u64 n))]) (tg λ(i:Nat) (n:Nat)=>[Ad b1 42 (AY 0)]) (tg λ(i:Nat) (n:Nat)=>K-i) 0 0 (⟨Nat.zero_le _,by simp [val]⟩) (sF rfl) sr (λi n hJ=>?_)
  obtain ⟨hi,hn⟩:=hJ
  refine q4 (AK (Ai (c:=(decide (i<K))) rfl rfl (CI (a:=i) (b:=K))) rfl (AD.nil (q1 ?_)))
  refine AE.cond rfl (λhc1=>?_) (λhc1=>?_)
  ·replace hc1:=of_decide_eq_true hc1
   refine AE.skip (q1 (AE.block (q4 (AQ rfl (AK (v:=(pP b i)) (AM (j:=i) rfl rfl Tryz.underlying184 Tryz.sizeOf97 rfl (by omega) (by simp)) rfl ?_)))))
   have hx1:bs.getD i 0<4294967296:=W32.getD hbs i
   refine AK (BO (v:=(vK .u32 (bs.getD i 0))) rfl (λw' hw=>CA.at0 (hw.oldCA (by simp) (EU hb)) (BD (xs:=bs) (j:=i) (by omega))) Tryz.isAgg97) rfl (asg' rfl (asg' rfl (AD.nil (AC.subF (sL [0,2,14,15,16,3,4,5] rfl) (AC.then_ ?_)))))
   refine AE.region (AQ rfl (AQ rfl (AK (A6 (c:=((bs.getD i 0:Nat):Int)) rfl Tryz.underlying97 Tryz.underlying40 (BK (by omega))) rfl (AQ rfl ?_))))
   have hiK:i<K:=hc1
   have hi2:i<2:=by omega
   have hn2:n<4294967296^i:=by rw [hn];exact Nat.lt_of_lt_of_le (Fm (hbs.take i)) (Nat.pow_le_pow_right (by omega) (by simp;omega))
   have hsh:=Qx (i:=i) (hbs.getD i) hi2
   have hn3:n<18446744073709551616:=P_ hn2 hi2
   refine AK (DQ (c:=((32*i:Nat):Int)) rfl rfl (Et (a:=32) (b:=i) (by omega))) rfl (AK (v:=(vK .u64 (bs.getD i 0*2^(32*i)))) (Fa (s:=32*i) rfl rfl rfl (show 32*i<=64 by omega) (Fo hsh)) rfl (AK (H7 (c:=((n+bs.getD i 0*2^(32*i):Nat):Int)) rfl rfl (IM hn3 hsh (Gp (by rw [<-Uu];exact hn2)))) rfl (asg' rfl (AD.nil (AC.subF (sL [0,2,14,15,16,3] rfl) ?_)))))
   refine AC.in_normal (AC.then_ (AE.region (AK (Ac (c:=((i+1:Nat):Int)) rfl rfl (Ae (a:=i) (b:=1) (by omega))) rfl (AQ rfl (AD.nil ?_)))))
   exact AC.subF (sL [0,2,14,15,16,3] rfl) (AC.round2 (i+1) (n+bs.getD i 0*2^(32*i)) (⟨by omega,by rw [BP,<-hn,Uu]⟩) (by omega) (sF rfl) sr)
  ·replace hc1:=of_decide_eq_false hc1
   refine AE.exit (AC.then_exit (AC.round2_exit (AC.in_exit (q2 (AQ rfl ?_)))))
   have hnn:n=val (bs.take K):=by rw [hn,show i=K by omega]
   have hv2:val (bs.take m)<18446744073709551616:=by rw [<-hval];exact Nat.lt_of_lt_of_le (Fm (hbs.take K)) (by rw [List.length_take];exact Nat.le_trans (Nat.pow_le_pow_right (n:=4294967296) (by omega) (show min K bs.length<=2 by omega)) (by decide))
   refine AK (v:=(aG ([(vK .u64 n),(Value.string (Bc 0))]))) (AU (zs:=AY 0) (vs:=[(vK .u64 n),(Value.string (Bc 0))]) (pv:=[(0,(vK .u64 n))]) (places:=[(0,1),(1,1)]) Tryz.zeroValue42 Tryz.underlying42 (λw=>by simp [Tryz.sizeOf9,Tryz.sizeOf40]) rfl rfl) rfl (AD.retell (k:=30) (u:=(aG (AY (val (bs.take m))))) rfl (by rw [DE hv2,<-hval,<-hnn];rfl) (A8 rfl Tryz.sizeOf42 rfl (AD.nil (AC.subF (sL [0,2,14,15,16,3] rfl) (AC.then_ ?_)))))
   exact AE.ret (AC.then_ret (AJ rfl (Au (i:=0) (cs:=AY (val (bs.take m))) rfl rfl Tryz.isAgg42 Tryz.sizeOf42 rfl) (λw hw=>⟨rfl,hw.out⟩)))
 ·replace hc0:=of_decide_eq_false hc0
  refine AE.skip (q2 (AQ rfl (AK (v:=(vN K)) (AF rfl Tryz.underlying184) rfl (AK (DQ (c:=((4*K:Nat):Int)) rfl rfl (Et (a:=4) (b:=K) (by omega))) rfl (AD.openV (V:=λb2=>(Value.slice (some ⟨b2,0,none⟩) 0 (4*K))) (T:=5) (cs:=ID (List.replicate (4*K) 0)) (AW rfl) (M9 (m:=0) (c:=4*K) rfl rfl (by omega) (by omega)) rfl (AV rfl) λb2=>?_)))))
  refine asg' rfl (q6 (sL [0,2,6] rfl) (q4 (AQ rfl (AK (v:=(vN K)) (AF rfl Tryz.underlying184) rfl (AQ rfl ?_)))))
  refine AD.nil (AC.then_ (AE.block ?_))
  refine AE.lp2 (tg λ(i:Nat) (bz:List Nat)=>i<=K/\bz=bytesN (bs.take i)++List.replicate (4*(K-i)) 0) (tg λ(i:Nat) (bz:List Nat)=>[(2,(pP b1 0)),(35,(Value.slice (some ⟨b,0,none⟩) K c)),(36,(vN K)),(37,(vN i)),(6,(Value.slice (some ⟨b2,0,none⟩) (4*i) (4*K)))]) (tg λ(i:Nat) (bz:List Nat)=>[Ad b2 5 (ID bz),Ad b1 42 (AY 0)]) (tg λ(i:Nat) (bz:List Nat)=>K-i) 0 (List.replicate (4*K) 0) (⟨Nat.zero_le _,by simp [bytesN]⟩) (sF rfl) sr (λi bz hJ=>?_)
  obtain ⟨hi,hz⟩:=hJ
  refine q4 (AK (Ai (c:=(decide (i<K))) rfl rfl (CI (a:=i) (b:=K))) rfl (AD.nil (q1 ?_)))
  refine AE.cond rfl (λhc2=>?_) (λhc2=>?_)
  ·replace hc2:=of_decide_eq_true hc2
   refine AE.skip (q1 (AE.block (q4 (AK (v:=(pP b i)) (AM (j:=i) rfl rfl Tryz.underlying184 Tryz.sizeOf97 rfl (by omega) (by simp)) rfl ?_))))
   have hx2:bs.getD i 0<4294967296:=W32.getD hbs i
   refine AK (BO (v:=(vK .u32 (bs.getD i 0))) rfl (λw' hw=>CA.at0 (hw.oldCA (by simp) (EU hb)) (BD (xs:=bs) (j:=i) (by omega))) Tryz.isAgg97) rfl (asg' rfl (AD.nil (AC.subF (sL [2,35,36,37,6,8] rfl) (AC.then_ (AE.region ?_)))))
   refine AQ rfl (AQ rfl (AK (A6 (c:=(((bs.getD i 0)%256:Nat):Int)) rfl Tryz.underlying97 Tryz.underlying5 IS) rfl (AQ rfl (AK (Cc (s:=8) (c:=(((bs.getD i 0)/256:Nat):Int)) rfl rfl rfl (by decide) (FA (a:=bs.getD i 0) (s:=8))) rfl (AK (A6 (c:=((((bs.getD i 0)/256)%256:Nat):Int)) rfl Tryz.underlying97 Tryz.underlying5 IS) rfl ?_)))))
   refine AQ rfl (AK (Cc (s:=16) (c:=(((bs.getD i 0)/65536:Nat):Int)) rfl rfl rfl (by decide) (FA (a:=bs.getD i 0) (s:=16))) rfl (AK (A6 (c:=((((bs.getD i 0)/65536)%256:Nat):Int)) rfl Tryz.underlying97 Tryz.underlying5 IS) rfl (AQ rfl (AK (Cc (s:=24) (c:=(((bs.getD i 0)/16777216:Nat):Int)) rfl rfl rfl (by decide) (FA (a:=bs.getD i 0) (s:=24))) rfl (AK (A6 (c:=((((bs.getD i 0)/16777216)%256:Nat):Int)) rfl Tryz.underlying97 Tryz.underlying5 IS) rfl ?_)))))
   refine AD.openV (V:=λb3=>(Value.slice (some ⟨b3,0,none⟩) 4 4)) (T:=5) (cs:=ID ([(bs.getD i 0)%256,((bs.getD i 0)/256)%256,((bs.getD i 0)/65536)%256,((bs.getD i 0)/16777216)%256])) (AW rfl) (BI (cs:=ID ([(bs.getD i 0)%256,((bs.getD i 0)/256)%256,((bs.getD i 0)/65536)%256,((bs.getD i 0)/16777216)%256])) (pv:=[(0,(vK .u8 ((bs.getD i 0)%256))),(1,(vK .u8 (((bs.getD i 0)/256)%256))),(2,(vK .u8 (((bs.getD i 0)/65536)%256))),(3,(vK .u8 (((bs.getD i 0)/16777216)%256)))]) Tryz.underlying62 Tryz.sizeOf5 Tryz.zeroValue5 (by decide) (by decide) rfl (by kernel_rfl)) rfl (AV rfl) λb3=>?_
   obtain ⟨bz2,hz2,hlay⟩:∃bz2,bz2=bytesN (bs.take (i+1))++List.replicate (4*(K-(i+1))) 0/\FQ (ID bz) (4*i) (ID ([(bs.getD i 0)%256,((bs.getD i 0)/256)%256,((bs.getD i 0)/65536)%256,((bs.getD i 0)/16777216)%256]))=ID bz2:=⟨_,rfl,by rw [hz];exact Mr hc2 (by omega)⟩
   refine AD.append_u8 (i:=1) (j:=0) (m:=4*i) (c:=4*K) (k:=4) (cs':=ID bz2) (L':=[Ad b3 5 (ID ([(bs.getD i 0)%256,((bs.getD i 0)/256)%256,((bs.getD i 0)/65536)%256,((bs.getD i 0)/16777216)%256])),Ad b2 5 (ID bz2),Ad b1 42 (AY 0)]) rfl (AW rfl) rfl rfl rfl rfl rfl rfl (by omega) (by rw [Gm,hz];simp [Bt];omega) hlay rfl (AV rfl) (asg' rfl (AD.nil (AC.subF (sL [2,35,36,37,6] rfl) (AC.in_normal (AC.then_ ?_)))))
   exact AE.region (AK (Ac (c:=((i+1:Nat):Int)) rfl rfl (Ae (a:=i) (b:=1) (by omega))) rfl (AQ rfl (AD.nil (AC.subF (sL [2,35,36,37,6] rfl) (AC.round2 (i+1) bz2 (⟨by omega,hz2⟩) (by omega) (sF rfl) (sl sr))))))
  ·replace hc2:=of_decide_eq_false hc2
   refine AE.exit (AC.then_exit (AC.round2_exit (AC.in_exit (q2 (AQ rfl ?_)))))
   have hbl:bz.length=4*i:=by rw [hz,List.length_append,Bt,List.length_take,List.length_replicate];omega
   have htk:(ID bz).take (4*i)=ID bz:=List.take_of_length_le (by rw [Gm];omega)
   refine AK (v:=(Value.string (Cq bz))) (IH (i:=0) (m:=4*i) (ns:=bz) rfl rfl htk hbl) rfl ?_
   have hv3:¬val (bs.take m)<18446744073709551616:=λh=>by have:=HJ h;omega
   have hbz:bz=bytesN (bs.take K):=by rw [hz,show i=K by omega];simp
   refine AK (v:=(aG ([(vK .u64 (Bs 0)),(Value.string (Cq bz))]))) (AU (zs:=AY 0) (vs:=[(vK .u64 (Bs 0)),(Value.string (Cq bz))]) (pv:=[(1,(Value.string (Cq bz)))]) (places:=[(0,1),(1,1)]) Tryz.zeroValue42 Tryz.underlying42 (λw=>by simp [Tryz.sizeOf9,Tryz.sizeOf40]) rfl rfl) rfl (AD.retell (k:=58) (u:=(aG (AY (val (bs.take m))))) rfl (by rw [Se hv3,hwd,<-hbz];rfl) (C6 rfl Tryz.sizeOf42 rfl (AD.nil (AC.subF (sL [2,35,36,37,6] rfl) (AC.then_ ?_)))))
   exact AE.ret (AJ rfl (Au (i:=1) (cs:=AY (val (bs.take m))) rfl rfl Tryz.isAgg42 Tryz.sizeOf42 rfl) (λw hw=>⟨rfl,hw.out⟩))
end
section
def C0 (a b:Nat):Int:=if a<b then -1 else if a=b then 0 else 1
theorem GI {a b:Nat}:C0 a b<0↔a<b:=by
  unfold C0;split
  · omega
  · split<;>omega
theorem Kz {a b:Nat}:C0 a b=0↔a=b:=by
  unfold C0;split
  · omega
  · split<;>omega
theorem Tr {a b:Nat} (h:nw a≠nw b):((nw a:Int)-(nw b:Int)).sign=C0 a b:=by
  unfold C0
  by_cases h1:nw a<nw b
  · have h2:a<b:=by
      rcases Nat.lt_or_ge a b with h2|h2
      · exact h2
      · have:=CY h2;omega
    rw [if_pos h2,Int.sign_eq_neg_one_of_neg (by omega)]
  · have h2:b<a:=by
      rcases Nat.lt_or_ge b a with h2|h2
      · exact h2
      · have:=CY h2;omega
    rw [if_neg (by omega),if_neg (by omega),Int.sign_eq_one_of_pos (by omega)]
theorem RI {xs ys:List Nat} {k:Nat} (hx:W32 xs) (hl:xs.length=ys.length) (h0:0<k) (hk:k<=xs.length) (hd:xs.drop k=ys.drop k) (h:xs.getD (k-1) 0<ys.getD (k-1) 0):val xs<val ys:=by
  have e1:=D9 xs k hk
  have e2:=D9 ys k (by omega)
  have s1:=BP xs (k-1)
  have s2:=BP ys (k-1)
  rw [show k-1+1=k by omega] at s1 s2
  have h1:val (xs.take (k-1))<4294967296^(k-1):=Nat.lt_of_lt_of_le (Fm (hx.take (k-1))) (Nat.pow_le_pow_right (by omega) (by simp;omega))
  have h2:(xs.getD (k-1) 0+1)*4294967296^(k-1)<=ys.getD (k-1) 0*4294967296^(k-1):=Nat.mul_le_mul_right _ h
  rw [Nat.add_mul] at h2
  rw [hd] at e1
  omega
theorem PG {xs ys:List Nat} {k:Nat} (hl:xs.length=ys.length) (h0:0<k) (hk:k<=xs.length) (hd:xs.drop k=ys.drop k) (h:xs.getD (k-1) 0=ys.getD (k-1) 0):xs.drop (k-1)=ys.drop (k-1):=by
  have h1:k-1<xs.length:=by omega
  have h2:k-1<ys.length:=by omega
  rw [List.drop_eq_getElem_cons h1,List.drop_eq_getElem_cons h2,show k-1+1=k by omega,hd]
  simp [h1,h2] at h
  rw [h]
theorem QS {a b k:Nat} (hl:nw a=nw b) (h0:0<k) (hk:k<=nw a) (hd:(AP a).drop k=(AP b).drop k) (hne:(AP a).getD (k-1) 0≠(AP b).getD (k-1) 0) :
    C0 a b=if (AP a).getD (k-1) 0<(AP b).getD (k-1) 0 then -1 else 1:=by
  unfold C0
  split
  · rename_i h
    rw [if_pos]
    rcases Nat.lt_or_ge ((AP a).getD (k-1) 0) ((AP b).getD (k-1) 0) with h1|h1
    · exact h1
    · have:=RI (Bh b) hl.symm h0 (by unfold nw at *;omega) hd.symm (show (AP b).getD (k-1) 0<(AP a).getD (k-1) 0 by omega)
      rw [CF,CF] at this;omega
  · rename_i h
    have h2:¬(AP a).getD (k-1) 0<(AP b).getD (k-1) 0:=λh1=>by
      have:=RI (Bh a) hl h0 hk hd h1
      rw [CF,CF] at this;omega
    rw [if_neg h2,if_neg]
    intro e;subst e;exact hne rfl
theorem Qo {a b:Nat} (hd:(AP a).drop 0=(AP b).drop 0):C0 a b=0:=by
  rw [Kz]
  rw [List.drop_zero,List.drop_zero] at hd
  rw [<-CF a,<-CF b,hd]
theorem C5 {v i:Nat} (h:i<nw v):(Ay v).getD i 0=(AP v).getD i 0:=by
  rw [<-G7 v]
  simp [List.getD_eq_getElem?_getD,List.getElem?_take,h]
theorem D4 {v i:Nat} (h:¬i<nw v):(AP v).getD i 0=0:=by
  unfold nw at h;simp [List.getD_eq_getElem?_getD,Nat.not_lt.1 h]
theorem Cr {v i:Nat} (h:nw v<=i):val ((AP v).take i)=v:=by
  rw [List.take_of_length_le h,CF]
theorem UJ (v:Nat):(Ay v).length<=nw v+2:=by
  unfold Ay;split
  · simp
  · unfold nw;omega
theorem Gu (v:Nat):val ((Ay v).take (nw v))=v:=by rw [G7,CF]
theorem L5 {os ys:List Nat} {X i n c:Nat} (hl:os.length=n) (hi:i<n) (hv:val os+c*4294967296^i=X+val (ys.take i)) :
    val (os.set i ((os.getD i 0+ys.getD i 0+c)%4294967296))+(os.getD i 0+ys.getD i 0+c)/4294967296*4294967296^(i+1)=X+val (ys.take (i+1)):=by
  have e:=EZ (xs:=os) (i:=i) (by omega) ((os.getD i 0+ys.getD i 0+c)%4294967296)
  have t:=BP ys i
  have hm:=Nat.div_add_mod (os.getD i 0+ys.getD i 0+c) 4294967296
  rw [Nat.pow_succ]
  generalize os.getD i 0=o at *
  generalize ys.getD i 0=y at *
  generalize (o+y+c)/4294967296=q at *
  generalize (o+y+c)%4294967296=r at *
  generalize 4294967296^i=p at *
  have hm2:(4294967296*q+r)*p=(o+y+c)*p:=by rw [hm]
  grind
theorem MK {os:List Nat} {X Y n c i:Nat} (hl:os.length=n) (hw:W32 os) (hi:n<=i) (hX:X+Y<4294967296^n) (hv:val os+c*4294967296^i=X+Y):val os=X+Y:=by
  have h1:4294967296^n<=4294967296^i:=Nat.pow_le_pow_right (by omega) hi
  rcases Nat.eq_zero_or_pos c with h|h
  · subst h;omega
  · have:1*4294967296^i<=c*4294967296^i:=Nat.mul_le_mul_right _ h
    omega
theorem Qz {os ys:List Nat} {X i n c:Nat} (hl:os.length=n) (hi:i<n) (hw:W32 os) (hy:W32 ys) (hc:c<=1) (hv:val os+val (ys.take i)=X+c*4294967296^i) :
    val (os.set i ((os.getD i 0+(4294967296-ys.getD i 0)+(4294967296-c))%4294967296))+val (ys.take (i+1))=X+Hu (os.getD i 0) (ys.getD i 0+c)*4294967296^(i+1):=by
  have e:=EZ (xs:=os) (i:=i) (by omega) ((os.getD i 0+(4294967296-ys.getD i 0)+(4294967296-c))%4294967296)
  have t:=BP ys i
  have ho:=hw.getD i
  have hy':=hy.getD i
  rw [Nat.pow_succ]
  have hm:(os.getD i 0+(4294967296-ys.getD i 0)+(4294967296-c))%4294967296+ys.getD i 0+c=os.getD i 0+Hu (os.getD i 0) (ys.getD i 0+c)*4294967296:=by
    unfold Hu;split<;>omega
  generalize (os.getD i 0+(4294967296-ys.getD i 0)+(4294967296-c))%4294967296=r at *
  generalize Hu (os.getD i 0) (ys.getD i 0+c)=q at *
  generalize os.getD i 0=o at *
  generalize ys.getD i 0=y at *
  generalize 4294967296^i=p at *
  have hm2:(r+y+c)*p=(o+q*4294967296)*p:=by rw [hm]
  grind
theorem RY {os:List Nat} {X Y n c i:Nat} (hl:os.length=n) (hw:W32 os) (hi:i=n) (hX:Y<=X) (hv:val os+Y=X+c*4294967296^i) (hX2:X<4294967296^n):val os=X-Y:=by
  have h1:=Fm hw
  rw [hl] at h1
  subst hi
  rcases Nat.eq_zero_or_pos c with h|h
  · subst h;omega
  · have:1*4294967296^i<=c*4294967296^i:=Nat.mul_le_mul_right _ h
    omega
theorem Nu (x y:Nat):Hu x y<=1:=by unfold Hu;split<;>omega
theorem RQ {os ys:List Nat} {S W i k n c:Nat} (hl:os.length=n) (hi:i+k<n) (hv:val os+c*4294967296^(i+k)=S+W*val (ys.take k)*4294967296^i) :
    val (os.set (i+k) ((c+(W*ys.getD k 0+os.getD (i+k) 0))%4294967296))+(c+(W*ys.getD k 0+os.getD (i+k) 0))/4294967296*4294967296^(i+(k+1))=S+W*val (ys.take (k+1))*4294967296^i:=by
  have e:=EZ (xs:=os) (i:=i+k) (by omega) ((c+(W*ys.getD k 0+os.getD (i+k) 0))%4294967296)
  have t:=BP ys k
  have hm:=Nat.div_add_mod (c+(W*ys.getD k 0+os.getD (i+k) 0)) 4294967296
  rw [t,show i+(k+1)=i+k+1 by omega,Nat.pow_succ]
  rw [Nat.pow_add] at *
  generalize os.getD (i+k) 0=o at *
  generalize ys.getD k 0=y at *
  generalize (c+(W*y+o))/4294967296=q at *
  generalize (c+(W*y+o))%4294967296=r at *
  generalize 4294967296^i=p at *
  generalize 4294967296^k=p' at *
  generalize val (ys.take k)=vy at *
  have hm2:(4294967296*q+r)*(p*p')=(c+(W*y+o))*(p*p'):=by rw [hm]
  grind
section
variable {n:Nat} {F:List (Nat×Value)} {w0:A_} {L:List As} {v:Value} {x y:Operand} {d:Option Tmp} {t:TypeId} {p:String} {af:Array Edge} {g:Option (Nat×Bool)}
theorem AD.copy_u32 {ops:Array Oper} {rest:List Oper} {Q:Exit->Act->World->Prop} {L':List As} {i j b b' m c k c' dd:Nat} {cs ds ns cs':List Value} {o:Oper} (ho:o=⟨some dd,.call { callee:=.builtin .copy,args:=#[x,y],argTypes:=#[184,184] },t,p,af,g⟩) (hw:Wt ops n F o)
    (hx:evF F x=some (.slice (some ⟨b,0,none⟩) m c)) (hy:evF F y=some (.slice (some ⟨b',0,none⟩) k c')) (hi:L[i]?=some (Ad b 97 cs)) (hj:L[j]?=some (Ad b' 97 ds)) (hns:ds.take k=ns) (hnl:ns.length=k) (h1:(ns.all λu=>u.oneCell')=true) (hkm:k<=m) (hfit:k<=cs.length)
    (hcs:FQ cs 0 ns=cs') (hL:L.set i (Ad b 97 cs')=L') (hd:dd<n) (next:AD Tryz.prog ops rest Q n ((dd,.int .i64 k)::F) w0 L'):AD Tryz.prog ops (o::rest) Q n F w0 L:=λa w ha hW=>by
  subst ho;subst hcs;subst hL
  unfold wpList
  rw [if_pos (hw a ha)]
  left
  have hca:=EA (off:=0) (k:=k) (hW.get hj)
  rw [List.drop_zero,hns] at hca
  have hr:=run_copy_row (P:=Tryz.prog) w 184 184 t 97 b 0 m c ⟨b',0,none⟩ k c' cs.toArray 97 ns Tryz.underlying184 (by kernel_rfl) (hW.get hi) (by rw [hnl];exact (Nat.min_eq_left hkm).symm) (λq u hu=>by rw [Addr.add_lit];exact hca q u hu) (by simp;omega) (λu hu=>List.all_eq_true.1 h1 u hu)
  unfold Oper.wp
  have he:(execOp a.eval ⟨some dd,.call { callee:=.builtin .copy,args:=#[x,y],argTypes:=#[184,184] },t,p,af,g⟩).run Tryz.prog w=.ok (.value (.int .i64 k)) (w.setRow b (FQ cs 0 ns).toArray):=by
    simp only [execOp,resolve,invoke,builtin,Sem.run_bind,Sem.run_pure,Result.andThen_ok,List.map_toArray,List.map_cons,List.map_nil,ha.ev hx,ha.ev hy,hr,FQ,hnl,goInt]
  rw [he,Oper.upon_value]
  have hg:=hW.get hi
  exact next _ _ (ha.put hd) (hW.turn hi rfl rfl ⟨⟨rfl,rfl,rfl,by simp,λq _ hq=>setRow_other w b q _ (λe=>hq (by simp [e]))⟩,Nat.le_refl _⟩ ⟨_,setRow_heap w b cs.toArray _ 97 _ hg,rfl⟩)
end
theorem ST {a b:Nat} (h:nw b<=nw a):a+b<4294967296^(nw a+1):=by
  have h1:=Bg a
  have h2:b<4294967296^nw a:=CQ.1 h
  rw [Nat.pow_succ];omega
theorem E1 (v k:Nat):(AP v++(List.replicate (nw v+k) 0).drop (AP v).length).length=nw v+k/\W32 (AP v++(List.replicate (nw v+k) 0).drop (AP v).length)/\val (AP v++(List.replicate (nw v+k) 0).drop (AP v).length)=v:=by
  have e:(List.replicate (nw v+k) 0).drop (AP v).length=List.replicate k 0:=by rw [List.drop_replicate];congr 1;unfold nw;omega
  rw [e]
  refine ⟨by simp [nw],(Bh v).append (W32.zeros k),?_⟩
  rw [JA,CF,Dh];omega
theorem G0 {os:List Nat} {p c n:Nat} (hl:os.length=n) (hp:p<n) (h0:os.getD p 0=0):val (os.set p c)=val os+c*4294967296^p:=by
  have e:=EZ (xs:=os) (i:=p) (by omega) c
  rw [h0] at e;omega
theorem Ms {os:List Nat} {a b i:Nat} (hv:val os=val ((AP a).take i)*b):∀j,i+nw b<=j->os.getD j 0=0:=λj hj=>by
  refine FT (m:=i+nw b) ?_ hj
  rw [hv,Nat.pow_add]
  refine Nat.mul_lt_mul'' (Nat.lt_of_lt_of_le (Fm ((Bh a).take i)) (Nat.pow_le_pow_right (by omega) (by simp;omega))) (Bg b)
theorem Ey {os:List Nat} {p q v:Nat} (h:∀j,p<=j->os.getD j 0=0) (hq:q<p):∀j,p<=j->(os.set q v).getD j 0=0:=λj hj=>by
  rw [List.getD_eq_getElem?_getD,List.getElem?_set_ne (by omega),<-List.getD_eq_getElem?_getD]
  exact h j hj
theorem UP {a b i:Nat}:val ((AP a).take i)*b+(AP a).getD i 0*b*4294967296^i=val ((AP a).take (i+1))*b:=by
  rw [BP];grind
theorem WP {x y:Nat} (hx:x<18446744073709551616) (hy:y<18446744073709551616):val [x%4294967296,x/4294967296,y%4294967296,y/4294967296]=x+y*18446744073709551616:=by
  simp only [val];omega
theorem MN (xs:List Nat):((Ao xs).all λu=>u.oneCell')=true:=List.all_eq_true.2 (RA xs)
theorem J6 (xs:List Nat) (k:Nat):(Ao xs).take k=Ao (xs.take k):=by simp [Ao,List.map_take]
theorem L7 (xs ns:List Nat):FQ (Ao xs) 0 (Ao ns)=Ao (ns++xs.drop ns.length):=by simp [FQ,Ao,List.map_drop]
end
section
set_option maxRecDepth 100000
theorem VF (a b p q c c2:Nat) (ha:nw a<=1099511627776) (hb:nw b<=1099511627776) (w:World) (hp:w.heap[p]?=some (.cells (Ao (Ay a)).toArray 97 (0,0))) (hq:w.heap[q]?=some (.cells (Ao (Ay b)).toArray 97 (0,0))):Calls Tryz.prog 218 #[(Value.slice (some ⟨p,0,none⟩) (nw a) c),(Value.slice (some ⟨q,0,none⟩) (nw b) c2)] w (Al w (vI (C0 a b))):=by
 have hla:=B7 a
 have hlb:=B7 b
 refine Aa (args:=[(Value.slice (some ⟨p,0,none⟩) (nw a) c),(Value.slice (some ⟨q,0,none⟩) (nw b) c2)]) Tryz.func218 rfl rfl (AV rfl) (AE.subF (sL [0,1] rfl) (q4 (asg' rfl (AD.nil (q1 ?_)))))
 refine q4 (AQ rfl (AK (v:=(vN (nw a))) (AF rfl Tryz.underlying184) rfl (AQ rfl (AK (v:=(vN (nw b))) (AF rfl Tryz.underlying184) rfl (AK (Bk (c:=(decide ((nw a)≠(nw b)))) rfl rfl (Ts (a:=nw a) (b:=nw b))) rfl ?_)))))
 refine AD.nil (AC.subF (sL [0,1,4,10] rfl) (AC.then_ ?_))
 refine AE.cond rfl (λhc0=>?_) (λhc0=>?_)
 ·replace hc0:=of_decide_eq_true hc0
  refine q4 (AQ rfl (AK (v:=(vN (nw a))) (AF rfl Tryz.underlying184) rfl (AQ rfl (AK (v:=(vN (nw b))) (AF rfl Tryz.underlying184) rfl (AK (BQ (c:=((nw a:Int)-(nw b:Int))) rfl rfl (BS (by omega) (by omega))) rfl ?_)))))
  refine ck' Tryz.call265 (Tk _ (by omega) (by omega)) rfl (AD.retell (k:=16) (u:=(vI (C0 a b))) rfl (by rw [Tr hc0]) (asg' rfl (AD.nil (AC.subF (sL [0,1,4] rfl) (AC.then_ ?_)))))
  exact AE.ret (AC.then_ret (AJ rfl (AS (v:=(vI (C0 a b))) rfl) (λw hw=>⟨rfl,hw.out⟩)))
 ·replace hc0:=of_decide_eq_false hc0
  refine AE.skip (q1 (q4 (AQ rfl (AK (v:=(vN (nw a))) (AF rfl Tryz.underlying184) rfl (AK (BQ (c:=(((nw a:Nat):Int)-1)) rfl rfl (BS (by omega) (by omega))) rfl ?_)))))
  refine asg' rfl (AD.nil (AC.subF (sL [0,1,4,5] rfl) (AC.then_ (AE.block ?_))))
  refine AE.lp1 (tg λ(k:Nat)=>k<=nw a/\(AP a).drop k=(AP b).drop k) (tg λ(k:Nat)=>[(0,(Value.slice (some ⟨p,0,none⟩) (nw a) c)),(1,(Value.slice (some ⟨q,0,none⟩) (nw b) c2)),(5,(vI (((k:Nat):Int)-1)))]) (tg λ(k:Nat)=>[]) (tg λ(k:Nat)=>k) (nw a) (⟨Nat.le_refl _,by rw [List.drop_of_length_le (by exact Nat.le_refl _),List.drop_of_length_le (by unfold nw at *;omega)]⟩) (sF rfl) sr (λk hJ=>?_)
  obtain ⟨hk,hd⟩:=hJ
  refine AE.seq (q4 (AQ rfl (AK (DH (c:=(decide ((0:Int)<=(((k:Nat):Int)-1)))) rfl rfl rfl) rfl (AD.nil (AC.subF (sL [0,1,5,21] rfl) ?_)))))
  refine AC.then_ ?_
  refine AE.cond rfl (λhc1=>?_) (λhc1=>?_)
  ·replace hc1:=of_decide_eq_true hc1
   have hk0:0<k:=by omega
   refine AE.retell (k:=5) (u:=(vN (k-1))) rfl (by congr 1;omega) (AE.skip (q1 (AE.block (AE.seq (CS [(0,true),(1,true),(2,true),(3,true),(4,true),(5,true),(6,true),(7,true),(8,true)] sr ?_)))))
   have ea:(Ay a).getD (k-1) 0=(AP a).getD (k-1) 0:=C5 (by omega)
   have eb:(Ay b).getD (k-1) 0=(AP b).getD (k-1) 0:=C5 (by omega)
   refine BT rfl (BT rfl (Ap (v:=(pP p (k-1))) rfl (AM (j:=k-1) rfl rfl Tryz.underlying184 Tryz.sizeOf97 rfl (by omega) (by simp)) ?_))
   have hx1:(Ay a).getD (k-1) 0<4294967296:=W32.getD (B9 a) (k-1)
   refine Ap rfl (BO (v:=(vK .u32 ((Ay a).getD (k-1) 0))) rfl (λw' hw=>CA.at0 (hw.oldCA (by simp) (EU hp)) (BD (xs:=Ay a) (j:=(k-1)) (by omega))) Tryz.isAgg97) (BT rfl (BT rfl (Ap (v:=(pP q (k-1))) rfl (AM (j:=k-1) rfl rfl Tryz.underlying184 Tryz.sizeOf97 rfl (by omega) (by simp)) ?_)))
   have hx2:(Ay b).getD (k-1) 0<4294967296:=W32.getD (B9 b) (k-1)
   refine Ap rfl (BO (v:=(vK .u32 ((Ay b).getD (k-1) 0))) rfl (λw' hw=>CA.at0 (hw.oldCA (by simp) (EU hq)) (BD (xs:=Ay b) (j:=(k-1)) (by omega))) Tryz.isAgg97) (Ap rfl (Bk (c:=(decide (((Ay a).getD (k-1) 0)≠((Ay b).getD (k-1) 0)))) rfl rfl (Ts (a:=(Ay a).getD (k-1) 0) (b:=(Ay b).getD (k-1) 0))) (OkE.nil (AC.subF (sL [0,1,5,32] rfl) (AC.then_ ?_))))
   refine AE.cond rfl (λhc2=>?_) (λhc2=>?_)
   ·replace hc2:=of_decide_eq_true hc2
    have hcw:=QS (by omega) hk0 hk hd (by omega)
    refine AE.seq (AE.seq (CS [(0,true),(1,true),(2,true),(3,true),(4,true),(5,true),(6,true),(7,true),(8,true)] sr (BT rfl (BT rfl (Ap (v:=(pP p (k-1))) rfl (AM (j:=k-1) rfl rfl Tryz.underlying184 Tryz.sizeOf97 rfl (by omega) (by simp)) ?_)))))
    have hx3:(Ay a).getD (k-1) 0<4294967296:=W32.getD (B9 a) (k-1)
    refine Ap rfl (BO (v:=(vK .u32 ((Ay a).getD (k-1) 0))) rfl (λw' hw=>CA.at0 (hw.oldCA (by simp) (EU hp)) (BD (xs:=Ay a) (j:=(k-1)) (by omega))) Tryz.isAgg97) (BT rfl (BT rfl (Ap (v:=(pP q (k-1))) rfl (AM (j:=k-1) rfl rfl Tryz.underlying184 Tryz.sizeOf97 rfl (by omega) (by simp)) ?_)))
    have hx4:(Ay b).getD (k-1) 0<4294967296:=W32.getD (B9 b) (k-1)
    refine Ap rfl (BO (v:=(vK .u32 ((Ay b).getD (k-1) 0))) rfl (λw' hw=>CA.at0 (hw.oldCA (by simp) (EU hq)) (BD (xs:=Ay b) (j:=(k-1)) (by omega))) Tryz.isAgg97) (Ap rfl (Ai (c:=(decide (((Ay a).getD (k-1) 0)<((Ay b).getD (k-1) 0)))) rfl rfl (CI (a:=(Ay a).getD (k-1) 0) (b:=(Ay b).getD (k-1) 0))) (OkE.nil (AC.subF (sL [0,1,5,41] rfl) (AC.then_ ?_))))
    refine AE.cond rfl (λhc3=>?_) (λhc3=>?_)
    ·replace hc3:=of_decide_eq_true hc3
     rw [if_pos (by omega)] at hcw
     refine q4 (asg' rfl (AD.nil (AC.then_ (AE.ret (AC.then_ret ?_)))))
     exact AC.in_ret (AC.then_ret (AC.round1_ret (AC.in_ret (AC.then_ret (AJ rfl (AS (v:=(vI (-1:Int))) rfl) (λw hw=>⟨by rw [hcw],hw.out⟩))))))
    ·replace hc3:=of_decide_eq_false hc3
     rw [if_neg (by omega)] at hcw
     refine AE.skip (q2 (asg' rfl (AD.nil (AC.then_ (AE.ret ?_)))))
     exact AC.in_ret (AC.then_ret (AC.round1_ret (AC.in_ret (AC.then_ret (AJ rfl (AS (v:=(vI 1)) rfl) (λw hw=>⟨by rw [hcw],hw.out⟩))))))
   ·replace hc2:=of_decide_eq_false hc2
    refine AE.skip (AC.in_normal (AC.then_ (AE.region (AQ rfl (AK (BQ (c:=(((k-1:Nat):Int)-1)) rfl rfl (BS (by omega) (by omega))) rfl ?_)))))
    exact asg' rfl (AD.nil (AC.subF (sL [0,1,5] rfl) (AC.round1 (k-1) (⟨by omega,PG (by unfold nw at hc0;omega) (by omega) hk hd (by omega)⟩) (by omega) (sF rfl) sr)))
  ·replace hc1:=of_decide_eq_false hc1
   have hk0:k=0:=by omega
   subst hk0
   have hz:=Qo hd
   refine AE.exit (AC.then_exit (AC.round1_exit (AC.in_exit (q2 (asg' rfl ?_)))))
   exact AD.nil (AC.then_ (AE.ret (AJ rfl (AS (v:=(vI 0)) rfl) (λw hw=>⟨by rw [hz],hw.out⟩))))
end
end Go.Proofs.YtpgncndhhhllfaaGreatDoor
