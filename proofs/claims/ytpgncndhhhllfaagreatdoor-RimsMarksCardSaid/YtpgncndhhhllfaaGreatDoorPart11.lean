import Derived.Test.YtpgncndhhhllfaaGreatDoorPart06
import Derived.Test.YtpgncndhhhllfaaGreatDoorPart10
namespace Go.Proofs.YtpgncndhhhllfaaGreatDoor
open Go Go.RowKit Go.Proofs.Tryz
set_option linter.unusedVariables false
set_option linter.unusedSimpArgs false
section
set_option maxRecDepth 100000
theorem Ig (n:Nat) (hn:n<18446744073709551616) (w:World)  :Calls Tryz.prog 104 #[(vK .u64 n)] w (An w (aG (Aa n))):=by
 refine Ag (args:=[(vK .u64 n)]) Tryz.func104 rfl rfl (AY rfl) (AF.subF (sL [0] rfl) (q4 (al F3 rfl λb1=>AD.nil (q2 ?_))))
 refine AJ rfl (AH (v:=(aG ([(vK .u64 n),(Value.string (BW 0))]))) (AU (zs:=Aa 0) (vs:=[(vK .u64 n),(Value.string (BW 0))]) (pv:=[(0,(vK .u64 n))]) (places:=[(0,1),(1,1)]) Tryz.zeroValue42 Tryz.underlying42 (λw=>by simp [Tryz.sizeOf9,Tryz.sizeOf40]) rfl rfl) rfl (AD.retell (k:=4) (u:=(aG (Aa n))) rfl (by rw [DB hn];rfl) (BC rfl Tryz.sizeOf42 rfl (AD.nil (AC.subF (sL [2] rfl) ?_)))))
 exact AC.then_ (AF.ret (AN rfl (BB (i:=0) (cs:=Aa n) rfl rfl Tryz.isAgg42 Tryz.sizeOf42 rfl) (λw hw=>⟨rfl,hw.out⟩)))
theorem KG  :Instr.fill ([(0,1),(1,1)].toArray[·]?) (Aa 0).toArray []=some (Aa 0).toArray:=by kernel_rfl
theorem O3 (a:Nat) (w:World)  :Calls Tryz.prog 167 #[(aG (Aa a))] w (An w (Value.bool (decide (a=0)))):=by
 refine Ag (args:=[(aG (Aa a))]) Tryz.func167 rfl rfl (AY rfl) (AF.subF (sL [0] rfl) (q4 (B9 (cs:=Aa a) rfl λb1=>asg' rfl (q3 (sL [1,2] rfl) ?_))))
 refine BF 0 CT rfl (AH (v:=(aG (Aa 0))) (AU (zs:=Aa 0) (vs:=Aa 0) (pv:=[]) (places:=[(0,1),(1,1)]) Tryz.zeroValue42 Tryz.underlying42 (λw=>by simp [Tryz.sizeOf9,Tryz.sizeOf40]) rfl (KG )) rfl (AH (Cq (c:=(decide (a=0))) rfl rfl Tryz.eqGuardType42 (IV 9998 a 0)) rfl (asg' rfl (AD.nil (AC.subF (sL [2] rfl) ?_)))))
 exact AC.then_ (AF.ret (AN rfl (AQ (v:=(Value.bool (decide (a=0)))) rfl) (λw hw=>⟨rfl,hw.out⟩)))
theorem Cn (v:Nat) (hv:nw v<=1099511627776) (w:World)  :Calls Tryz.prog 111 #[(aG (Aa v))] w (λe w'=>∃b,e=.returned (.slice (some ⟨b,0,none⟩) (nw v) (Ao v).length)/\Dk w.heap.size w w'/\w.heap.size<=b/\w'.heap[b]?=some (.cells (Aj (Ao v)).toArray 97 (0,0))):=by
 refine Ag (args:=[(aG (Aa v))]) Tryz.func111 rfl rfl (AY rfl) (AF.subF (sL [0] rfl) (q4 (B9 (cs:=Aa v) rfl λb1=>asg' rfl (q6 (sL [1,2] rfl) ?_))))
 refine q4 (AH (v:=(pP b1 1)) (AA rfl Tryz.underlying42 rfl Tryz.sizeOf9 rfl) rfl (BD 0 (Value.string (BW v)) RJ rfl (AH (Ba (c:=(decide (v<18446744073709551616))) rfl rfl CI) rfl (AD.nil (AC.subF (sL [1,2,8] rfl) ?_)))))
 refine AC.then_ ?_
 refine AF.cond rfl (λhc0=>?_) (λhc0=>?_)
 ·replace hc0:=of_decide_eq_true hc0
  refine q4 (AH (v:=(pP b1 0)) (AA rfl Tryz.underlying42 rfl Tryz.sizeOf40 rfl) rfl (BD 0 (vK .u64 (Bq v)) F1 rfl (AD.retell (k:=10) (u:=(vK .u64 v)) rfl (by rw [BU hc0]) (AH (Au (c:=((v%4294967296:Nat):Int)) rfl Tryz.underlying40 Tryz.underlying97 Dn) rfl (AH (v:=(pP b1 0)) (AA rfl Tryz.underlying42 rfl Tryz.sizeOf40 rfl) rfl ?_)))))
  refine BD 0 (vK .u64 (Bq v)) F1 rfl (AD.retell (k:=13) (u:=(vK .u64 v)) rfl (by rw [BU hc0]) (AH (CZ (s:=32) (c:=((v/4294967296:Nat):Int)) rfl rfl rfl (by decide) (Fa (a:=v) (s:=32))) rfl (AH (Au (c:=((v/4294967296:Nat):Int)) rfl Tryz.underlying40 Tryz.underlying97 (CQ (by omega))) rfl (AD.openV (V:=λb2=>(Value.slice (some ⟨b2,0,none⟩) 2 2)) (T:=97) (cs:=Aj ([v%4294967296,v/4294967296])) (AO rfl) (Am (cs:=Aj ([v%4294967296,v/4294967296])) (pv:=[(0,(vK .u32 (v%4294967296))),(1,(vK .u32 (v/4294967296)))]) Tryz.underlying184 Tryz.sizeOf97 Tryz.zeroValue97 (by decide) (by decide) rfl (by kernel_rfl)) rfl (AY rfl) λb2=>DC Tryz.call161 (λw hw=>Te _ 2 2 ([v%4294967296,v/4294967296]) (W32.cons (by omega) (W32.cons (by omega) (W32.nil))) (by simp) (by simp) (by simp;try omega) w (hw.get (i:=0) rfl)) rfl ?_))))
  refine asg' rfl (AD.nil (AC.subF (sL [1,2] rfl) (AC.then_ (AF.ret (AC.then_ret ?_)))))
  have hpad:Ao v=[v%4294967296,v/4294967296]:=by simp [Ao,hc0]
  have hnw:nw v=DI [v%4294967296,v/4294967296] 2:=by rw [<-Na (Ut hc0) (m:=2) (by simp),<-On v,hpad];simp [val];congr 1;omega
  have hret:∀b:Nat,(Ending.returned (Value.slice (some ⟨b,0,none⟩) (DI ([v%4294967296,v/4294967296]) 2) 2))=.returned (Value.slice (some ⟨b,0,none⟩) (nw v) (Ao v).length):=λb=>by rw [hnw,hpad];rfl
  replace hret:=hret b2
  have hcells:(some (Obj.cells (Aj ([v%4294967296,v/4294967296])).toArray 97 (0,0)))=some (Obj.cells (Aj (Ao v)).toArray 97 (0,0)):=by rw [hpad]
  exact AN rfl (AQ (v:=(Value.slice (some ⟨b2,0,none⟩) (DI ([v%4294967296,v/4294967296]) 2) 2)) rfl) (λw hw=>⟨b2,hret,hw.out,hw.fresh (i:=0) rfl,(hw.get (i:=0) rfl).trans hcells⟩)
 ·replace hc0:=of_decide_eq_false hc0
  refine AF.skip (q2 (AH (v:=(pP b1 1)) (AA rfl Tryz.underlying42 rfl Tryz.sizeOf9 rfl) rfl (BD 0 (Value.string (BW v)) RJ rfl (AH (v:=(vN ((BW v).size))) (KC rfl Tryz.underlying9) rfl (AD.retell (k:=20) (u:=(vN (4*nw v))) rfl (by rw [EI hc0,JW,Bs];rfl) ?_)))))
  refine AH (EA (c:=(((4*nw v)/4:Nat):Int)) rfl rfl (by omega) (ED (a:=4*nw v) (b:=4) (by omega))) rfl (AD.retell (k:=21) (u:=(vN (nw v))) rfl (by rw [Nat.mul_div_cancel_left _ (by omega)]) (AD.openV (V:=λb2=>(Value.slice (some ⟨b2,0,none⟩) (nw v) (nw v))) (T:=97) (cs:=Aj (List.replicate (nw v) 0)) (AO rfl) (Cp (m:=nw v) (c:=nw v) rfl rfl (by omega) (by omega)) rfl (AY rfl) λb2=>asg' rfl (q6 (sL [1,2,3] rfl) (q4 ?_))))
  refine AJ rfl (AH (v:=(vN (nw v))) (AE rfl Tryz.underlying184) rfl (AJ rfl (AD.nil (AC.subF (sL [1,2,3,24,25] rfl) (AC.then_ ?_)))))
  refine AF.block ?_
  refine AF.lp2 (tg λ(i:Nat) (os:List Nat)=>i<=nw v/\os.length=nw v/\os.take i=(AM v).take i/\∀j,i<=j->os.getD j 0=0) (tg λ(i:Nat) (os:List Nat)=>[(1,(pP b1 0)),(2,(Value.slice none 0 0)),(3,(Value.slice (some ⟨b2,0,none⟩) (nw v) (nw v))),(24,(vN (nw v))),(25,(vN i))]) (tg λ(i:Nat) (os:List Nat)=>[Ab b2 97 (Aj os),Ab b1 42 (Aa v)]) (tg λ(i:Nat) (os:List Nat)=>nw v-i) 0 (List.replicate (nw v) 0) (⟨Nat.zero_le _,by simp,by simp,λj _=>by simp [List.getD_eq_getElem?_getD,List.getElem?_replicate];split<;>rfl⟩) (sF rfl) sr (λi os hJ=>?_)
  obtain ⟨hin,hl,ht,h0⟩:=hJ
  refine q4 (AH (Ad (c:=(decide (i<(nw v)))) rfl rfl (CB (a:=i) (b:=nw v))) rfl (AD.nil (q1 ?_)))
  refine AF.cond rfl (λhc1=>?_) (λhc1=>?_)
  ·replace hc1:=of_decide_eq_true hc1
   refine AF.skip (q1 (AF.block (q4 (AJ rfl (asg' rfl ?_)))))
   refine q3 (sL [1,2,3,24,25,4] rfl) (AJ rfl (AD.nil (AC.then_ (AF.block ?_))))
   refine AF.lp2 (tg λ(k:Nat) (xs:List Nat)=>k<=4/\xs=os.set i ((AM v).getD i 0%256^k)) (tg λ(k:Nat) (xs:List Nat)=>[(1,(pP b1 0)),(2,(Value.slice none 0 0)),(3,(Value.slice (some ⟨b2,0,none⟩) (nw v) (nw v))),(24,(vN (nw v))),(25,(vN i)),(4,(vN i)),(28,(vN k))]) (tg λ(k:Nat) (xs:List Nat)=>[Ab b2 97 (Aj xs),Ab b1 42 (Aa v)]) (tg λ(k:Nat) (xs:List Nat)=>4-k) 0 os (⟨by omega,by rw [Nat.pow_zero,Nat.mod_one];exact SM (h0 i (Nat.le_refl _))⟩) (sF rfl) sr (λk xs hJ=>?_)
   obtain ⟨hk,hxs⟩:=hJ
   refine q4 (AH (Ad (c:=(decide (k<4))) rfl rfl (CB (a:=k) (b:=4))) rfl (AD.nil (q1 ?_)))
   refine AF.cond rfl (λhc2=>?_) (λhc2=>?_)
   ·replace hc2:=of_decide_eq_true hc2
    refine AF.skip (q1 (AF.block (q4 (AJ rfl (asg' rfl ?_)))))
    refine AD.nil (AC.subF (sL [1,2,3,24,25,4,28,5] rfl) (AC.then_ (Cw [(0,true),(1,true),(2,true),(4,true),(5,true),(6,true),(7,true),(8,true),(9,true),(10,true),(11,true),(12,true),(13,true),(14,true),(3,false),(15,true),(16,true),(17,false)] (sl sr) ?_)))
    have hi:i<nw v:=hc1
    have hxi:xs.getD i 0=(AM v).getD i 0%256^k:=by rw [hxs];simp [hl,hi]
    have hxl:xs.length=nw v:=by rw [hxs];simp [hl]
    have hby:(AM v).getD i 0/256^k%256<256:=Nat.mod_lt _ (by omega)
    have hget:(BW v)[4*i+k]?=some (UInt8.ofNat ((AM v).getD i 0/256^k%256)):=by rw [EI hc0,QU (by rw [Bs];show 4*i+k<4*nw v;omega),FH _ _ _ hi hc2]
    have hw32:xs.getD i 0<4294967296:=by rw [hxi];exact Nat.lt_of_le_of_lt (Nat.mod_le _ _) ((Bc v).getD i)
    refine BS rfl (BS rfl (Aw (v:=(pP b2 i)) rfl (AK (j:=i) rfl rfl Tryz.underlying184 Tryz.sizeOf97 rfl (by omega) (by simp)) (Aw (v:=(pP b1 1)) rfl (AA rfl Tryz.underlying42 rfl Tryz.sizeOf9 rfl) (Bm 0 (Value.string (BW v)) RJ rfl (BS rfl ?_)))))
    refine Aw rfl (DH (c:=((4*i:Nat):Int)) rfl rfl (E1 (a:=4) (b:=i) (by omega))) (BS rfl (Aw rfl (AW (c:=(((4*i)+k:Nat):Int)) rfl rfl (AR (a:=4*i) (b:=k) (by omega))) (Aw (v:=(vK .u8 ((AM v).getD i 0/256^k%256))) rfl (G7 (j:=4*i+k) (m:=(AM v).getD i 0/256^k%256) rfl rfl Tryz.underlying9 hget hby) (Aw rfl (Au (c:=(((AM v).getD i 0/256^k%256:Nat):Int)) rfl Tryz.underlying5 Tryz.underlying97 (CQ (by omega))) (BS rfl ?_)))))
    refine Aw rfl (DH (c:=((8*k:Nat):Int)) rfl rfl (E1 (a:=8) (b:=k) (by omega))) (Aw (v:=(vK .u32 ((AM v).getD i 0/256^k%256*2^(8*k)))) rfl (Ft (s:=8*k) rfl rfl rfl (show 8*k<=32 by omega) (TV (Ow hc2))) (OkE.imp rfl (AH (AP (i:=0) (v:=(vK .u32 (xs.getD i 0))) rfl rfl Tryz.isAgg97 (BA (xs:=xs) (j:=i) (by omega))) rfl (OkE.back (sl sr) (Aw rfl (IA (c:=(((AM v).getD i 0%256^(k+1):Nat):Int)) rfl rfl (Ii hw32 (Ow hc2) (Qk hxi))) ?_)))))
    refine Aw (v:=(pP b2 i)) rfl (AK (j:=i) rfl rfl Tryz.underlying184 Tryz.sizeOf97 rfl (by omega) (by simp)) (OkE.imp rfl (AD.store' (i:=0) (off:=i) (vs:=[(vK .u32 ((AM v).getD i 0%256^(k+1)))]) (cs':=Aj (xs.set i ((AM v).getD i 0%256^(k+1)))) (L':=[Ab b2 97 (Aj (xs.set i ((AM v).getD i 0%256^(k+1)))),Ab b1 42 (Aa v)]) (AO rfl) rfl rfl rfl rfl rfl Tryz.sizeOf97 rfl (CP (BG _) (by omega)) (Bx (by omega)) rfl (OkE.back (sl sr) (OkE.nil (AC.subF (sL [1,2,3,24,25,4,28] rfl) ?_)))))
    refine AC.in_normal (AC.then_ (AF.region (AH (AW (c:=((k+1:Nat):Int)) rfl rfl (AR (a:=k) (b:=1) (by omega))) rfl (AJ rfl (AD.nil ?_)))))
    exact AC.subF (sL [1,2,3,24,25,4,28] rfl) (AC.round2 (k+1) (xs.set i ((AM v).getD i 0%256^(k+1))) (⟨by omega,by rw [hxs,List.set_set]⟩) (by omega) (sF rfl) sr)
   ·replace hc2:=of_decide_eq_false hc2
    refine AF.exit (AC.then_exit (AC.round2_exit (AC.in_exit (AC.in_normal (AC.then_ ?_)))))
    refine AF.region (AH (AW (c:=((i+1:Nat):Int)) rfl rfl (AR (a:=i) (b:=1) (by omega))) rfl (AJ rfl (AD.nil (AC.subF (sL [1,2,3,24,25,4,28] rfl) ?_))))
    have hst:=Nf (ws:=AM v) (xs:=xs) hl rfl hc1 ht h0 (by rw [hxs,show k=4 by omega];congr 1;exact Nat.mod_eq_of_lt ((Bc v).getD i))
    exact AC.round2 (i+1) xs (⟨by omega,hst.1,hst.2.1,hst.2.2⟩) (by omega) (sF rfl) sr
  ·replace hc1:=of_decide_eq_false hc1
   refine AF.exit (AC.then_exit (AC.round2_exit (AC.in_exit (q2 (AJ rfl ?_)))))
   refine asg' rfl (AD.nil (AC.subF (sL [1,2,3,24,25] rfl) (AC.then_ (AF.ret ?_))))
   have hpad:Ao v=AM v:=by simp [Ao,hc0]
   have hos:os=AM v:=RS hl rfl hc1 ht
   have hret:∀b:Nat,(Ending.returned (Value.slice (some ⟨b,0,none⟩) (nw v) (nw v)))=.returned (Value.slice (some ⟨b,0,none⟩) (nw v) (Ao v).length):=λb=>by rw [hpad];rfl
   replace hret:=hret b2
   have hcells:(some (Obj.cells (Aj os).toArray 97 (0,0)))=some (Obj.cells (Aj (Ao v)).toArray 97 (0,0)):=by rw [hpad,hos]
   exact AN rfl (AQ (v:=(Value.slice (some ⟨b2,0,none⟩) (nw v) (nw v))) rfl) (λw hw=>⟨b2,hret,hw.out,hw.fresh (i:=0) rfl,(hw.get (i:=0) rfl).trans hcells⟩)
end
section
set_option maxRecDepth 100000
theorem H0 (b m c:Nat) (bs:List Nat) (hbs:W32 bs) (hm:m<=bs.length) (hc:m<=c) (hL:c<4398046511104) (w:World) (hb:w.heap[b]?=some (.cells (Aj bs).toArray 97 (0,0))):Calls Tryz.prog 110 #[(Value.slice (some ⟨b,0,none⟩) m c)] w (An w (aG (Aa (val (bs.take m))))):=by
 have hle:=Ij bs m
 have hval:=Je bs m
 have hwd:=Hl hbs hm
 have hnw:=Na hbs hm
 generalize hK:DI bs m=K at *
 refine Ag (args:=[(Value.slice (some ⟨b,0,none⟩) m c)]) Tryz.func110 rfl rfl (AY rfl) (AF.subF (sL [0] rfl) (q4 (al F3 rfl λb1=>AD.nil (q2 ?_))))
 refine AJ rfl (DC Tryz.call161 (λw hw=>Te _ m c bs hbs (by omega) (by omega) (by omega) w (hw.old (by simp) hb)) rfl (AD.retell (k:=10) (u:=(Value.slice (some ⟨b,0,none⟩) K c)) rfl (by rw [hK]) (asg' rfl (q6 (sL [0,2] rfl) (q4 ?_)))))
 refine AJ rfl (AH (v:=(vN K)) (AE rfl Tryz.underlying184) rfl (AH (FU (c:=(decide (K<=2))) rfl rfl (S7 (a:=K) (b:=2))) rfl (AD.nil (AC.subF (sL [0,2,13] rfl) (AC.then_ ?_)))))
 refine AF.cond rfl (λhc0=>?_) (λhc0=>?_)
 ·replace hc0:=of_decide_eq_true hc0
  refine q4 (asg' rfl (AD.nil (q1 (q4 (AJ rfl ?_)))))
  refine AH (v:=(vN K)) (AE rfl Tryz.underlying184) rfl (AJ rfl (AD.nil (AC.then_ (AF.block ?_))))
  refine AF.lp2 (tg λ(i:Nat) (n:Nat)=>i<=K/\n=val (bs.take i)) (tg λ(i:Nat) (n:Nat)=>[(0,(Value.slice (some ⟨b,0,none⟩) K c)),(2,(pP b1 0)),(14,(Value.slice (some ⟨b,0,none⟩) K c)),(15,(vN K)),(16,(vN i)),(3,(vK .u64 n))]) (tg λ(i:Nat) (n:Nat)=>[Ab b1 42 (Aa 0)]) (tg λ(i:Nat) (n:Nat)=>K-i) 0 0 (⟨Nat.zero_le _,by simp [val]⟩) (sF rfl) sr (λi n hJ=>?_)
  obtain ⟨hi,hn⟩:=hJ
  refine q4 (AH (Ad (c:=(decide (i<K))) rfl rfl (CB (a:=i) (b:=K))) rfl (AD.nil (q1 ?_)))
  refine AF.cond rfl (λhc1=>?_) (λhc1=>?_)
  ·replace hc1:=of_decide_eq_true hc1
   refine AF.skip (q1 (AF.block (q4 (AJ rfl (AH (v:=(pP b i)) (AK (j:=i) rfl rfl Tryz.underlying184 Tryz.sizeOf97 rfl (by omega) (by simp)) rfl ?_)))))
   have hx1:bs.getD i 0<4294967296:=W32.getD hbs i
   refine AH (BO (v:=(vK .u32 (bs.getD i 0))) rfl (λw' hw=>CA.at0 (hw.oldCA (by simp) (EO hb)) (BA (xs:=bs) (j:=i) (by omega))) Tryz.isAgg97) rfl (asg' rfl (asg' rfl (AD.nil (AC.subF (sL [0,2,14,15,16,3,4,5] rfl) (AC.then_ ?_)))))
   refine AF.region (AJ rfl (AJ rfl (AH (Au (c:=((bs.getD i 0:Nat):Int)) rfl Tryz.underlying97 Tryz.underlying40 (BH (by omega))) rfl (AJ rfl ?_))))
   have hiK:i<K:=hc1
   have hi2:i<2:=by omega
   have hn2:n<4294967296^i:=by rw [hn];exact Nat.lt_of_lt_of_le (Fk (hbs.take i)) (Nat.pow_le_pow_right (by omega) (by simp;omega))
   have hsh:=RL (i:=i) (hbs.getD i) hi2
   have hn3:n<18446744073709551616:=P3 hn2 hi2
   refine AH (DH (c:=((32*i:Nat):Int)) rfl rfl (E1 (a:=32) (b:=i) (by omega))) rfl (AH (v:=(vK .u64 (bs.getD i 0*2^(32*i)))) (Ft (s:=32*i) rfl rfl rfl (show 32*i<=64 by omega) (F7 hsh)) rfl (AH (IA (c:=((n+bs.getD i 0*2^(32*i):Nat):Int)) rfl rfl (Id hn3 hsh (Gg (by rw [<-Vp];exact hn2)))) rfl (asg' rfl (AD.nil (AC.subF (sL [0,2,14,15,16,3] rfl) ?_)))))
   refine AC.in_normal (AC.then_ (AF.region (AH (AW (c:=((i+1:Nat):Int)) rfl rfl (AR (a:=i) (b:=1) (by omega))) rfl (AJ rfl (AD.nil ?_)))))
   exact AC.subF (sL [0,2,14,15,16,3] rfl) (AC.round2 (i+1) (n+bs.getD i 0*2^(32*i)) (⟨by omega,by rw [BP,<-hn,Vp]⟩) (by omega) (sF rfl) sr)
  ·replace hc1:=of_decide_eq_false hc1
   refine AF.exit (AC.then_exit (AC.round2_exit (AC.in_exit (q2 (AJ rfl ?_)))))
   have hnn:n=val (bs.take K):=by rw [hn,show i=K by omega]
   have hv2:val (bs.take m)<18446744073709551616:=by rw [<-hval];exact Nat.lt_of_lt_of_le (Fk (hbs.take K)) (by rw [List.length_take];exact Nat.le_trans (Nat.pow_le_pow_right (n:=4294967296) (by omega) (show min K bs.length<=2 by omega)) (by decide))
   refine AH (v:=(aG ([(vK .u64 n),(Value.string (BW 0))]))) (AU (zs:=Aa 0) (vs:=[(vK .u64 n),(Value.string (BW 0))]) (pv:=[(0,(vK .u64 n))]) (places:=[(0,1),(1,1)]) Tryz.zeroValue42 Tryz.underlying42 (λw=>by simp [Tryz.sizeOf9,Tryz.sizeOf40]) rfl rfl) rfl (AD.retell (k:=30) (u:=(aG (Aa (val (bs.take m))))) rfl (by rw [DB hv2,<-hval,<-hnn];rfl) (BC rfl Tryz.sizeOf42 rfl (AD.nil (AC.subF (sL [0,2,14,15,16,3] rfl) (AC.then_ ?_)))))
   exact AF.ret (AC.then_ret (AN rfl (BB (i:=0) (cs:=Aa (val (bs.take m))) rfl rfl Tryz.isAgg42 Tryz.sizeOf42 rfl) (λw hw=>⟨rfl,hw.out⟩)))
 ·replace hc0:=of_decide_eq_false hc0
  refine AF.skip (q2 (AJ rfl (AH (v:=(vN K)) (AE rfl Tryz.underlying184) rfl (AH (DH (c:=((4*K:Nat):Int)) rfl rfl (E1 (a:=4) (b:=K) (by omega))) rfl (AD.openV (V:=λb2=>(Value.slice (some ⟨b2,0,none⟩) 0 (4*K))) (T:=5) (cs:=IR (List.replicate (4*K) 0)) (AO rfl) (Nt (m:=0) (c:=4*K) rfl rfl (by omega) (by omega)) rfl (AY rfl) λb2=>?_)))))
  refine asg' rfl (q6 (sL [0,2,6] rfl) (q4 (AJ rfl (AH (v:=(vN K)) (AE rfl Tryz.underlying184) rfl (AJ rfl ?_)))))
  refine AD.nil (AC.then_ (AF.block ?_))
  refine AF.lp2 (tg λ(i:Nat) (bz:List Nat)=>i<=K/\bz=bytesN (bs.take i)++List.replicate (4*(K-i)) 0) (tg λ(i:Nat) (bz:List Nat)=>[(2,(pP b1 0)),(35,(Value.slice (some ⟨b,0,none⟩) K c)),(36,(vN K)),(37,(vN i)),(6,(Value.slice (some ⟨b2,0,none⟩) (4*i) (4*K)))]) (tg λ(i:Nat) (bz:List Nat)=>[Ab b2 5 (IR bz),Ab b1 42 (Aa 0)]) (tg λ(i:Nat) (bz:List Nat)=>K-i) 0 (List.replicate (4*K) 0) (⟨Nat.zero_le _,by simp [bytesN]⟩) (sF rfl) sr (λi bz hJ=>?_)
  obtain ⟨hi,hz⟩:=hJ
  refine q4 (AH (Ad (c:=(decide (i<K))) rfl rfl (CB (a:=i) (b:=K))) rfl (AD.nil (q1 ?_)))
  refine AF.cond rfl (λhc2=>?_) (λhc2=>?_)
  ·replace hc2:=of_decide_eq_true hc2
   refine AF.skip (q1 (AF.block (q4 (AH (v:=(pP b i)) (AK (j:=i) rfl rfl Tryz.underlying184 Tryz.sizeOf97 rfl (by omega) (by simp)) rfl ?_))))
   have hx2:bs.getD i 0<4294967296:=W32.getD hbs i
   refine AH (BO (v:=(vK .u32 (bs.getD i 0))) rfl (λw' hw=>CA.at0 (hw.oldCA (by simp) (EO hb)) (BA (xs:=bs) (j:=i) (by omega))) Tryz.isAgg97) rfl (asg' rfl (AD.nil (AC.subF (sL [2,35,36,37,6,8] rfl) (AC.then_ (AF.region ?_)))))
   refine AJ rfl (AJ rfl (AH (Au (c:=(((bs.getD i 0)%256:Nat):Int)) rfl Tryz.underlying97 Tryz.underlying5 If) rfl (AJ rfl (AH (CZ (s:=8) (c:=(((bs.getD i 0)/256:Nat):Int)) rfl rfl rfl (by decide) (Fa (a:=bs.getD i 0) (s:=8))) rfl (AH (Au (c:=((((bs.getD i 0)/256)%256:Nat):Int)) rfl Tryz.underlying97 Tryz.underlying5 If) rfl ?_)))))
   refine AJ rfl (AH (CZ (s:=16) (c:=(((bs.getD i 0)/65536:Nat):Int)) rfl rfl rfl (by decide) (Fa (a:=bs.getD i 0) (s:=16))) rfl (AH (Au (c:=((((bs.getD i 0)/65536)%256:Nat):Int)) rfl Tryz.underlying97 Tryz.underlying5 If) rfl (AJ rfl (AH (CZ (s:=24) (c:=(((bs.getD i 0)/16777216:Nat):Int)) rfl rfl rfl (by decide) (Fa (a:=bs.getD i 0) (s:=24))) rfl (AH (Au (c:=((((bs.getD i 0)/16777216)%256:Nat):Int)) rfl Tryz.underlying97 Tryz.underlying5 If) rfl ?_)))))
   refine AD.openV (V:=λb3=>(Value.slice (some ⟨b3,0,none⟩) 4 4)) (T:=5) (cs:=IR ([(bs.getD i 0)%256,((bs.getD i 0)/256)%256,((bs.getD i 0)/65536)%256,((bs.getD i 0)/16777216)%256])) (AO rfl) (Am (cs:=IR ([(bs.getD i 0)%256,((bs.getD i 0)/256)%256,((bs.getD i 0)/65536)%256,((bs.getD i 0)/16777216)%256])) (pv:=[(0,(vK .u8 ((bs.getD i 0)%256))),(1,(vK .u8 (((bs.getD i 0)/256)%256))),(2,(vK .u8 (((bs.getD i 0)/65536)%256))),(3,(vK .u8 (((bs.getD i 0)/16777216)%256)))]) Tryz.underlying62 Tryz.sizeOf5 Tryz.zeroValue5 (by decide) (by decide) rfl (by kernel_rfl)) rfl (AY rfl) λb3=>?_
   obtain ⟨bz2,hz2,hlay⟩:∃bz2,bz2=bytesN (bs.take (i+1))++List.replicate (4*(K-(i+1))) 0/\Fd (IR bz) (4*i) (IR ([(bs.getD i 0)%256,((bs.getD i 0)/256)%256,((bs.getD i 0)/65536)%256,((bs.getD i 0)/16777216)%256]))=IR bz2:=⟨_,rfl,by rw [hz];exact Nc hc2 (by omega)⟩
   refine AD.append_u8 (i:=1) (j:=0) (m:=4*i) (c:=4*K) (k:=4) (cs':=IR bz2) (L':=[Ab b3 5 (IR ([(bs.getD i 0)%256,((bs.getD i 0)/256)%256,((bs.getD i 0)/65536)%256,((bs.getD i 0)/16777216)%256])),Ab b2 5 (IR bz2),Ab b1 42 (Aa 0)]) rfl (AO rfl) rfl rfl rfl rfl rfl rfl (by omega) (by rw [Gp,hz];simp [Bs];omega) hlay rfl (AY rfl) (asg' rfl (AD.nil (AC.subF (sL [2,35,36,37,6] rfl) (AC.in_normal (AC.then_ ?_)))))
   exact AF.region (AH (AW (c:=((i+1:Nat):Int)) rfl rfl (AR (a:=i) (b:=1) (by omega))) rfl (AJ rfl (AD.nil (AC.subF (sL [2,35,36,37,6] rfl) (AC.round2 (i+1) bz2 (⟨by omega,hz2⟩) (by omega) (sF rfl) (sl sr))))))
  ·replace hc2:=of_decide_eq_false hc2
   refine AF.exit (AC.then_exit (AC.round2_exit (AC.in_exit (q2 (AJ rfl ?_)))))
   have hbl:bz.length=4*i:=by rw [hz,List.length_append,Bs,List.length_take,List.length_replicate];omega
   have htk:(IR bz).take (4*i)=IR bz:=List.take_of_length_le (by rw [Gp];omega)
   refine AH (v:=(Value.string (Co bz))) (IN (i:=0) (m:=4*i) (ns:=bz) rfl rfl htk hbl) rfl ?_
   have hv3:¬val (bs.take m)<18446744073709551616:=λh=>by have:=Jb h;omega
   have hbz:bz=bytesN (bs.take K):=by rw [hz,show i=K by omega];simp
   refine AH (v:=(aG ([(vK .u64 (Bq 0)),(Value.string (Co bz))]))) (AU (zs:=Aa 0) (vs:=[(vK .u64 (Bq 0)),(Value.string (Co bz))]) (pv:=[(1,(Value.string (Co bz)))]) (places:=[(0,1),(1,1)]) Tryz.zeroValue42 Tryz.underlying42 (λw=>by simp [Tryz.sizeOf9,Tryz.sizeOf40]) rfl rfl) rfl (AD.retell (k:=58) (u:=(aG (Aa (val (bs.take m))))) rfl (by rw [SR hv3,hwd,<-hbz];rfl) (Ej rfl Tryz.sizeOf42 rfl (AD.nil (AC.subF (sL [2,35,36,37,6] rfl) (AC.then_ ?_)))))
   exact AF.ret (AN rfl (BB (i:=1) (cs:=Aa (val (bs.take m))) rfl rfl Tryz.isAgg42 Tryz.sizeOf42 rfl) (λw hw=>⟨rfl,hw.out⟩))
end
section
def Cy (a b:Nat):Int:=if a<b then -1 else if a=b then 0 else 1
theorem GB {a b:Nat}:Cy a b<0↔a<b:=by
  unfold Cy;split
  · omega
  · split<;>omega
theorem Li {a b:Nat}:Cy a b=0↔a=b:=by
  unfold Cy;split
  · omega
  · split<;>omega
theorem U9 {a b:Nat} (h:nw a≠nw b):((nw a:Int)-(nw b:Int)).sign=Cy a b:=by
  unfold Cy
  by_cases h1:nw a<nw b
  · have h2:a<b:=by
      rcases Nat.lt_or_ge a b with h2|h2
      · exact h2
      · have:=Ca h2;omega
    rw [if_pos h2,Int.sign_eq_neg_one_of_neg (by omega)]
  · have h2:b<a:=by
      rcases Nat.lt_or_ge b a with h2|h2
      · exact h2
      · have:=Ca h2;omega
    rw [if_neg (by omega),if_neg (by omega),Int.sign_eq_one_of_pos (by omega)]
theorem S2 {xs ys:List Nat} {k:Nat} (hx:W32 xs) (hl:xs.length=ys.length) (h0:0<k) (hk:k<=xs.length) (hd:xs.drop k=ys.drop k) (h:xs.getD (k-1) 0<ys.getD (k-1) 0):val xs<val ys:=by
  have e1:=D3 xs k hk
  have e2:=D3 ys k (by omega)
  have s1:=BP xs (k-1)
  have s2:=BP ys (k-1)
  rw [show k-1+1=k by omega] at s1 s2
  have h1:val (xs.take (k-1))<4294967296^(k-1):=Nat.lt_of_lt_of_le (Fk (hx.take (k-1))) (Nat.pow_le_pow_right (by omega) (by simp;omega))
  have h2:(xs.getD (k-1) 0+1)*4294967296^(k-1)<=ys.getD (k-1) 0*4294967296^(k-1):=Nat.mul_le_mul_right _ h
  rw [Nat.add_mul] at h2
  rw [hd] at e1
  omega
theorem QH {xs ys:List Nat} {k:Nat} (hl:xs.length=ys.length) (h0:0<k) (hk:k<=xs.length) (hd:xs.drop k=ys.drop k) (h:xs.getD (k-1) 0=ys.getD (k-1) 0):xs.drop (k-1)=ys.drop (k-1):=by
  have h1:k-1<xs.length:=by omega
  have h2:k-1<ys.length:=by omega
  rw [List.drop_eq_getElem_cons h1,List.drop_eq_getElem_cons h2,show k-1+1=k by omega,hd]
  simp [h1,h2] at h
  rw [h]
theorem Qs {a b k:Nat} (hl:nw a=nw b) (h0:0<k) (hk:k<=nw a) (hd:(AM a).drop k=(AM b).drop k) (hne:(AM a).getD (k-1) 0≠(AM b).getD (k-1) 0) :
    Cy a b=if (AM a).getD (k-1) 0<(AM b).getD (k-1) 0 then -1 else 1:=by
  unfold Cy
  split
  · rename_i h
    rw [if_pos]
    rcases Nat.lt_or_ge ((AM a).getD (k-1) 0) ((AM b).getD (k-1) 0) with h1|h1
    · exact h1
    · have:=S2 (Bc b) hl.symm h0 (by unfold nw at *;omega) hd.symm (show (AM b).getD (k-1) 0<(AM a).getD (k-1) 0 by omega)
      rw [CE,CE] at this;omega
  · rename_i h
    have h2:¬(AM a).getD (k-1) 0<(AM b).getD (k-1) 0:=λh1=>by
      have:=S2 (Bc a) hl h0 hk hd h1
      rw [CE,CE] at this;omega
    rw [if_neg h2,if_neg]
    intro e;subst e;exact hne rfl
theorem Rg {a b:Nat} (hd:(AM a).drop 0=(AM b).drop 0):Cy a b=0:=by
  rw [Li]
  rw [List.drop_zero,List.drop_zero] at hd
  rw [<-CE a,<-CE b,hd]
theorem C4 {v i:Nat} (h:i<nw v):(Ao v).getD i 0=(AM v).getD i 0:=by
  rw [<-Gw v]
  simp [List.getD_eq_getElem?_getD,List.getElem?_take,h]
theorem Dr {v i:Nat} (h:¬i<nw v):(AM v).getD i 0=0:=by
  unfold nw at h;simp [List.getD_eq_getElem?_getD,Nat.not_lt.1 h]
theorem Cv {v i:Nat} (h:nw v<=i):val ((AM v).take i)=v:=by
  rw [List.take_of_length_le h,CE]
theorem Ug (v:Nat):(Ao v).length<=nw v+2:=by
  unfold Ao;split
  · simp
  · unfold nw;omega
theorem G4 (v:Nat):val ((Ao v).take (nw v))=v:=by rw [Gw,CE]
theorem Mw {os ys:List Nat} {X i n c:Nat} (hl:os.length=n) (hi:i<n) (hv:val os+c*4294967296^i=X+val (ys.take i)) :
    val (os.set i ((os.getD i 0+ys.getD i 0+c)%4294967296))+(os.getD i 0+ys.getD i 0+c)/4294967296*4294967296^(i+1)=X+val (ys.take (i+1)):=by
  have e:=Ec (xs:=os) (i:=i) (by omega) ((os.getD i 0+ys.getD i 0+c)%4294967296)
  have t:=BP ys i
  have hm:=Nat.div_add_mod (os.getD i 0+ys.getD i 0+c) 4294967296
  rw [Nat.pow_succ]
  generalize os.getD i 0=o at *
  generalize ys.getD i 0=y at *
  generalize (o+y+c)/4294967296=q at *
  generalize (o+y+c)%4294967296=r at *
  generalize 4294967296^i=p at *
  have hm2:(4294967296*q+r)*p=(o+y+c)*p:=by rw [hm]
  grind
theorem Mh {os:List Nat} {X Y n c i:Nat} (hl:os.length=n) (hw:W32 os) (hi:n<=i) (hX:X+Y<4294967296^n) (hv:val os+c*4294967296^i=X+Y):val os=X+Y:=by
  have h1:4294967296^n<=4294967296^i:=Nat.pow_le_pow_right (by omega) hi
  rcases Nat.eq_zero_or_pos c with h|h
  · subst h;omega
  · have:1*4294967296^i<=c*4294967296^i:=Nat.mul_le_mul_right _ h
    omega
theorem Sc {os ys:List Nat} {X i n c:Nat} (hl:os.length=n) (hi:i<n) (hw:W32 os) (hy:W32 ys) (hc:c<=1) (hv:val os+val (ys.take i)=X+c*4294967296^i) :
    val (os.set i ((os.getD i 0+(4294967296-ys.getD i 0)+(4294967296-c))%4294967296))+val (ys.take (i+1))=X+H1 (os.getD i 0) (ys.getD i 0+c)*4294967296^(i+1):=by
  have e:=Ec (xs:=os) (i:=i) (by omega) ((os.getD i 0+(4294967296-ys.getD i 0)+(4294967296-c))%4294967296)
  have t:=BP ys i
  have ho:=hw.getD i
  have hy':=hy.getD i
  rw [Nat.pow_succ]
  have hm:(os.getD i 0+(4294967296-ys.getD i 0)+(4294967296-c))%4294967296+ys.getD i 0+c=os.getD i 0+H1 (os.getD i 0) (ys.getD i 0+c)*4294967296:=by
    unfold H1;split<;>omega
  generalize (os.getD i 0+(4294967296-ys.getD i 0)+(4294967296-c))%4294967296=r at *
  generalize H1 (os.getD i 0) (ys.getD i 0+c)=q at *
  generalize os.getD i 0=o at *
  generalize ys.getD i 0=y at *
  generalize 4294967296^i=p at *
  have hm2:(r+y+c)*p=(o+q*4294967296)*p:=by rw [hm]
  grind
theorem To {os:List Nat} {X Y n c i:Nat} (hl:os.length=n) (hw:W32 os) (hi:i=n) (hX:Y<=X) (hv:val os+Y=X+c*4294967296^i) (hX2:X<4294967296^n):val os=X-Y:=by
  have h1:=Fk hw
  rw [hl] at h1
  subst hi
  rcases Nat.eq_zero_or_pos c with h|h
  · subst h;omega
  · have:1*4294967296^i<=c*4294967296^i:=Nat.mul_le_mul_right _ h
    omega
theorem N3 (x y:Nat):H1 x y<=1:=by unfold H1;split<;>omega
theorem TH {os ys:List Nat} {S W i k n c:Nat} (hl:os.length=n) (hi:i+k<n) (hv:val os+c*4294967296^(i+k)=S+W*val (ys.take k)*4294967296^i) :
    val (os.set (i+k) ((c+(W*ys.getD k 0+os.getD (i+k) 0))%4294967296))+(c+(W*ys.getD k 0+os.getD (i+k) 0))/4294967296*4294967296^(i+(k+1))=S+W*val (ys.take (k+1))*4294967296^i:=by
  have e:=Ec (xs:=os) (i:=i+k) (by omega) ((c+(W*ys.getD k 0+os.getD (i+k) 0))%4294967296)
  have t:=BP ys k
  have hm:=Nat.div_add_mod (c+(W*ys.getD k 0+os.getD (i+k) 0)) 4294967296
  rw [t,show i+(k+1)=i+k+1 by omega,Nat.pow_succ]
  rw [Nat.pow_add] at *
  generalize os.getD (i+k) 0=o at *
  generalize ys.getD k 0=y at *
  generalize (c+(W*y+o))/4294967296=q at *
  generalize (c+(W*y+o))%4294967296=r at *
  generalize 4294967296^i=p at *
  generalize 4294967296^k=p' at *
  generalize val (ys.take k)=vy at *
  have hm2:(4294967296*q+r)*(p*p')=(c+(W*y+o))*(p*p'):=by rw [hm]
  grind
section
variable {n:Nat} {F:List (Nat×Value)} {w0:A7} {L:List As} {v:Value} {x y:Operand} {d:Option Tmp} {t:TypeId} {p:String} {af:Array Edge} {g:Option (Nat×Bool)}
theorem AD.copy_u32 {ops:Array Oper} {rest:List Oper} {Q:Exit->Act->World->Prop} {L':List As} {i j b b' m c k c' dd:Nat} {cs ds ns cs':List Value} {o:Oper} (ho:o=⟨some dd,.call { callee:=.builtin .copy,args:=#[x,y],argTypes:=#[184,184] },t,p,af,g⟩) (hw:Wt ops n F o)
    (hx:evF F x=some (.slice (some ⟨b,0,none⟩) m c)) (hy:evF F y=some (.slice (some ⟨b',0,none⟩) k c')) (hi:L[i]?=some (Ab b 97 cs)) (hj:L[j]?=some (Ab b' 97 ds)) (hns:ds.take k=ns) (hnl:ns.length=k) (h1:(ns.all λu=>u.oneCell')=true) (hkm:k<=m) (hfit:k<=cs.length)
    (hcs:Fd cs 0 ns=cs') (hL:L.set i (Ab b 97 cs')=L') (hd:dd<n) (next:AD Tryz.prog ops rest Q n ((dd,.int .i64 k)::F) w0 L'):AD Tryz.prog ops (o::rest) Q n F w0 L:=λa w ha hW=>by
  subst ho;subst hcs;subst hL
  unfold wpList
  rw [if_pos (hw a ha)]
  left
  have hca:=D8 (off:=0) (k:=k) (hW.get hj)
  rw [List.drop_zero,hns] at hca
  have hr:=run_copy_row (P:=Tryz.prog) w 184 184 t 97 b 0 m c ⟨b',0,none⟩ k c' cs.toArray 97 ns Tryz.underlying184 (by kernel_rfl) (hW.get hi) (by rw [hnl];exact (Nat.min_eq_left hkm).symm) (λq u hu=>by rw [Addr.add_lit];exact hca q u hu) (by simp;omega) (λu hu=>List.all_eq_true.1 h1 u hu)
  unfold Oper.wp
  have he:(execOp a.eval ⟨some dd,.call { callee:=.builtin .copy,args:=#[x,y],argTypes:=#[184,184] },t,p,af,g⟩).run Tryz.prog w=.ok (.value (.int .i64 k)) (w.setRow b (Fd cs 0 ns).toArray):=by
    simp only [execOp,resolve,invoke,builtin,Sem.run_bind,Sem.run_pure,Result.andThen_ok,List.map_toArray,List.map_cons,List.map_nil,ha.ev hx,ha.ev hy,hr,Fd,hnl,goInt]
  rw [he,Oper.upon_value]
  have hg:=hW.get hi
  exact next _ _ (ha.put hd) (hW.turn hi rfl rfl ⟨⟨rfl,rfl,rfl,by simp,λq _ hq=>setRow_other w b q _ (λe=>hq (by simp [e]))⟩,Nat.le_refl _⟩ ⟨_,setRow_heap w b cs.toArray _ 97 _ hg,rfl⟩)
end
theorem Rt {a b:Nat} (h:nw b<=nw a):a+b<4294967296^(nw a+1):=by
  have h1:=Bb a
  have h2:b<4294967296^nw a:=CS.1 h
  rw [Nat.pow_succ];omega
theorem Ew (v k:Nat):(AM v++(List.replicate (nw v+k) 0).drop (AM v).length).length=nw v+k/\W32 (AM v++(List.replicate (nw v+k) 0).drop (AM v).length)/\val (AM v++(List.replicate (nw v+k) 0).drop (AM v).length)=v:=by
  have e:(List.replicate (nw v+k) 0).drop (AM v).length=List.replicate k 0:=by rw [List.drop_replicate];congr 1;unfold nw;omega
  rw [e]
  refine ⟨by simp [nw],(Bc v).append (W32.zeros k),?_⟩
  rw [Jh,CE,Df];omega
theorem HI {os:List Nat} {p c n:Nat} (hl:os.length=n) (hp:p<n) (h0:os.getD p 0=0):val (os.set p c)=val os+c*4294967296^p:=by
  have e:=Ec (xs:=os) (i:=p) (by omega) c
  rw [h0] at e;omega
theorem OJ {os:List Nat} {a b i:Nat} (hv:val os=val ((AM a).take i)*b):∀j,i+nw b<=j->os.getD j 0=0:=λj hj=>by
  refine Fh (m:=i+nw b) ?_ hj
  rw [hv,Nat.pow_add]
  refine Nat.mul_lt_mul'' (Nat.lt_of_lt_of_le (Fk ((Bc a).take i)) (Nat.pow_le_pow_right (by omega) (by simp;omega))) (Bb b)
theorem E3 {os:List Nat} {p q v:Nat} (h:∀j,p<=j->os.getD j 0=0) (hq:q<p):∀j,p<=j->(os.set q v).getD j 0=0:=λj hj=>by
  rw [List.getD_eq_getElem?_getD,List.getElem?_set_ne (by omega),<-List.getD_eq_getElem?_getD]
  exact h j hj
theorem UX {a b i:Nat}:val ((AM a).take i)*b+(AM a).getD i 0*b*4294967296^i=val ((AM a).take (i+1))*b:=by
  rw [BP];grind
theorem W8 {x y:Nat} (hx:x<18446744073709551616) (hy:y<18446744073709551616):val [x%4294967296,x/4294967296,y%4294967296,y/4294967296]=x+y*18446744073709551616:=by
  simp only [val];omega
theorem Mm (xs:List Nat):((Aj xs).all λu=>u.oneCell')=true:=List.all_eq_true.2 (TT xs)
theorem Kf (xs:List Nat) (k:Nat):(Aj xs).take k=Aj (xs.take k):=by simp [Aj,List.map_take]
theorem Mn (xs ns:List Nat):Fd (Aj xs) 0 (Aj ns)=Aj (ns++xs.drop ns.length):=by simp [Fd,Aj,List.map_drop]
end
section
set_option maxRecDepth 100000
theorem WL (a b p q c c2:Nat) (ha:nw a<=1099511627776) (hb:nw b<=1099511627776) (w:World) (hp:w.heap[p]?=some (.cells (Aj (Ao a)).toArray 97 (0,0))) (hq:w.heap[q]?=some (.cells (Aj (Ao b)).toArray 97 (0,0))):Calls Tryz.prog 218 #[(Value.slice (some ⟨p,0,none⟩) (nw a) c),(Value.slice (some ⟨q,0,none⟩) (nw b) c2)] w (An w (vI (Cy a b))):=by
 have hla:=B5 a
 have hlb:=B5 b
 refine Ag (args:=[(Value.slice (some ⟨p,0,none⟩) (nw a) c),(Value.slice (some ⟨q,0,none⟩) (nw b) c2)]) Tryz.func218 rfl rfl (AY rfl) (AF.subF (sL [0,1] rfl) (q4 (asg' rfl (AD.nil (q1 ?_)))))
 refine q4 (AJ rfl (AH (v:=(vN (nw a))) (AE rfl Tryz.underlying184) rfl (AJ rfl (AH (v:=(vN (nw b))) (AE rfl Tryz.underlying184) rfl (AH (B7 (c:=(decide ((nw a)≠(nw b)))) rfl rfl (VQ (a:=nw a) (b:=nw b))) rfl ?_)))))
 refine AD.nil (AC.subF (sL [0,1,4,10] rfl) (AC.then_ ?_))
 refine AF.cond rfl (λhc0=>?_) (λhc0=>?_)
 ·replace hc0:=of_decide_eq_true hc0
  refine q4 (AJ rfl (AH (v:=(vN (nw a))) (AE rfl Tryz.underlying184) rfl (AJ rfl (AH (v:=(vN (nw b))) (AE rfl Tryz.underlying184) rfl (AH (BL (c:=((nw a:Int)-(nw b:Int))) rfl rfl (BK (by omega) (by omega))) rfl ?_)))))
  refine ck' Tryz.call265 (Uf _ (by omega) (by omega)) rfl (AD.retell (k:=16) (u:=(vI (Cy a b))) rfl (by rw [U9 hc0]) (asg' rfl (AD.nil (AC.subF (sL [0,1,4] rfl) (AC.then_ ?_)))))
  exact AF.ret (AC.then_ret (AN rfl (AQ (v:=(vI (Cy a b))) rfl) (λw hw=>⟨rfl,hw.out⟩)))
 ·replace hc0:=of_decide_eq_false hc0
  refine AF.skip (q1 (q4 (AJ rfl (AH (v:=(vN (nw a))) (AE rfl Tryz.underlying184) rfl (AH (BL (c:=(((nw a:Nat):Int)-1)) rfl rfl (BK (by omega) (by omega))) rfl ?_)))))
  refine asg' rfl (AD.nil (AC.subF (sL [0,1,4,5] rfl) (AC.then_ (AF.block ?_))))
  refine AF.lp1 (tg λ(k:Nat)=>k<=nw a/\(AM a).drop k=(AM b).drop k) (tg λ(k:Nat)=>[(0,(Value.slice (some ⟨p,0,none⟩) (nw a) c)),(1,(Value.slice (some ⟨q,0,none⟩) (nw b) c2)),(5,(vI (((k:Nat):Int)-1)))]) (tg λ(k:Nat)=>[]) (tg λ(k:Nat)=>k) (nw a) (⟨Nat.le_refl _,by rw [List.drop_of_length_le (by exact Nat.le_refl _),List.drop_of_length_le (by unfold nw at *;omega)]⟩) (sF rfl) sr (λk hJ=>?_)
  obtain ⟨hk,hd⟩:=hJ
  refine AF.seq (q4 (AJ rfl (AH (C_ (c:=(decide ((0:Int)<=(((k:Nat):Int)-1)))) rfl rfl rfl) rfl (AD.nil (AC.subF (sL [0,1,5,21] rfl) ?_)))))
  refine AC.then_ ?_
  refine AF.cond rfl (λhc1=>?_) (λhc1=>?_)
  ·replace hc1:=of_decide_eq_true hc1
   have hk0:0<k:=by omega
   refine AF.retell (k:=5) (u:=(vN (k-1))) rfl (by congr 1;omega) (AF.skip (q1 (AF.block (AF.seq (Cw [(0,true),(1,true),(2,true),(3,true),(4,true),(5,true),(6,true),(7,true),(8,true)] sr ?_)))))
   have ea:(Ao a).getD (k-1) 0=(AM a).getD (k-1) 0:=C4 (by omega)
   have eb:(Ao b).getD (k-1) 0=(AM b).getD (k-1) 0:=C4 (by omega)
   refine BS rfl (BS rfl (Aw (v:=(pP p (k-1))) rfl (AK (j:=k-1) rfl rfl Tryz.underlying184 Tryz.sizeOf97 rfl (by omega) (by simp)) ?_))
   have hx1:(Ao a).getD (k-1) 0<4294967296:=W32.getD (B6 a) (k-1)
   refine Aw rfl (BO (v:=(vK .u32 ((Ao a).getD (k-1) 0))) rfl (λw' hw=>CA.at0 (hw.oldCA (by simp) (EO hp)) (BA (xs:=Ao a) (j:=(k-1)) (by omega))) Tryz.isAgg97) (BS rfl (BS rfl (Aw (v:=(pP q (k-1))) rfl (AK (j:=k-1) rfl rfl Tryz.underlying184 Tryz.sizeOf97 rfl (by omega) (by simp)) ?_)))
   have hx2:(Ao b).getD (k-1) 0<4294967296:=W32.getD (B6 b) (k-1)
   refine Aw rfl (BO (v:=(vK .u32 ((Ao b).getD (k-1) 0))) rfl (λw' hw=>CA.at0 (hw.oldCA (by simp) (EO hq)) (BA (xs:=Ao b) (j:=(k-1)) (by omega))) Tryz.isAgg97) (Aw rfl (B7 (c:=(decide (((Ao a).getD (k-1) 0)≠((Ao b).getD (k-1) 0)))) rfl rfl (VQ (a:=(Ao a).getD (k-1) 0) (b:=(Ao b).getD (k-1) 0))) (OkE.nil (AC.subF (sL [0,1,5,32] rfl) (AC.then_ ?_))))
   refine AF.cond rfl (λhc2=>?_) (λhc2=>?_)
   ·replace hc2:=of_decide_eq_true hc2
    have hcw:=Qs (by omega) hk0 hk hd (by omega)
    refine AF.seq (AF.seq (Cw [(0,true),(1,true),(2,true),(3,true),(4,true),(5,true),(6,true),(7,true),(8,true)] sr (BS rfl (BS rfl (Aw (v:=(pP p (k-1))) rfl (AK (j:=k-1) rfl rfl Tryz.underlying184 Tryz.sizeOf97 rfl (by omega) (by simp)) ?_)))))
    have hx3:(Ao a).getD (k-1) 0<4294967296:=W32.getD (B6 a) (k-1)
    refine Aw rfl (BO (v:=(vK .u32 ((Ao a).getD (k-1) 0))) rfl (λw' hw=>CA.at0 (hw.oldCA (by simp) (EO hp)) (BA (xs:=Ao a) (j:=(k-1)) (by omega))) Tryz.isAgg97) (BS rfl (BS rfl (Aw (v:=(pP q (k-1))) rfl (AK (j:=k-1) rfl rfl Tryz.underlying184 Tryz.sizeOf97 rfl (by omega) (by simp)) ?_)))
    have hx4:(Ao b).getD (k-1) 0<4294967296:=W32.getD (B6 b) (k-1)
    refine Aw rfl (BO (v:=(vK .u32 ((Ao b).getD (k-1) 0))) rfl (λw' hw=>CA.at0 (hw.oldCA (by simp) (EO hq)) (BA (xs:=Ao b) (j:=(k-1)) (by omega))) Tryz.isAgg97) (Aw rfl (Ad (c:=(decide (((Ao a).getD (k-1) 0)<((Ao b).getD (k-1) 0)))) rfl rfl (CB (a:=(Ao a).getD (k-1) 0) (b:=(Ao b).getD (k-1) 0))) (OkE.nil (AC.subF (sL [0,1,5,41] rfl) (AC.then_ ?_))))
    refine AF.cond rfl (λhc3=>?_) (λhc3=>?_)
    ·replace hc3:=of_decide_eq_true hc3
     rw [if_pos (by omega)] at hcw
     refine q4 (asg' rfl (AD.nil (AC.then_ (AF.ret (AC.then_ret ?_)))))
     exact AC.in_ret (AC.then_ret (AC.round1_ret (AC.in_ret (AC.then_ret (AN rfl (AQ (v:=(vI (-1:Int))) rfl) (λw hw=>⟨by rw [hcw],hw.out⟩))))))
    ·replace hc3:=of_decide_eq_false hc3
     rw [if_neg (by omega)] at hcw
     refine AF.skip (q2 (asg' rfl (AD.nil (AC.then_ (AF.ret ?_)))))
     exact AC.in_ret (AC.then_ret (AC.round1_ret (AC.in_ret (AC.then_ret (AN rfl (AQ (v:=(vI 1)) rfl) (λw hw=>⟨by rw [hcw],hw.out⟩))))))
   ·replace hc2:=of_decide_eq_false hc2
    refine AF.skip (AC.in_normal (AC.then_ (AF.region (AJ rfl (AH (BL (c:=(((k-1:Nat):Int)-1)) rfl rfl (BK (by omega) (by omega))) rfl ?_)))))
    exact asg' rfl (AD.nil (AC.subF (sL [0,1,5] rfl) (AC.round1 (k-1) (⟨by omega,QH (by unfold nw at hc0;omega) (by omega) hk hd (by omega)⟩) (by omega) (sF rfl) sr)))
  ·replace hc1:=of_decide_eq_false hc1
   have hk0:k=0:=by omega
   subst hk0
   have hz:=Rg hd
   refine AF.exit (AC.then_exit (AC.round1_exit (AC.in_exit (q2 (asg' rfl ?_)))))
   exact AD.nil (AC.then_ (AF.ret (AN rfl (AQ (v:=(vI 0)) rfl) (λw hw=>⟨by rw [hz],hw.out⟩))))
end
end Go.Proofs.YtpgncndhhhllfaaGreatDoor
