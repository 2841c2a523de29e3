import Derived.Test.YtpolhpjiahbidaaGreatDoorPrt03
namespace Go.Proofs.YtpolhpjiahbidaaGreatDoor
open Go Go.RowKit Go.Proofs.Tryz
open Go.Value renaming slice→qz,bool→qa
set_option linter.unusedVariables false
set_option linter.unusedSimpArgs false
section
set_option maxRecDepth 100000
theorem KV (n:Nat) (hn:n<18446744073709551616) (w:World)  :Calls prog 172 #[(vK .u64 n)] w (AX w (aG (AT n))):=by
 refine AS (args:=[(vK .u64 n)]) func172 O O (leB O) (zM (sL [0] O) (q4 (al Gl O λb1=>oNl' (q2 (AJ O (st' (v:=(aG ([(vK .u64 n),(Value.string (Bs 0))]))) (AO (zs:=AT 0) (vs:=[(vK .u64 n),(Value.string (Bs 0))]) (pv:=[(0,(vK .u64 n))]) (places:=[(0,1),(1,1)]) zeroValue71 underlying71 (λw=>by simp [sizeOf9,sizeOf69]) O O) O (zK (k:=4) (u:=(aG (AT n))) O (by rw [D9 hn];rfl) (Aj O sizeOf71 O (oNl' (zF (sL [2] O) ?_))))))))))
 exact zC (zH (ret_one O (Ah (i:=0) (cs:=AT n) O O isAgg71 sizeOf71 O) (λw hw=>⟨rfl,hw.out⟩)))
theorem MK  :Instr.fill ([(0,1),(1,1)].toArray[·]?) (AT 0).toArray []=some (AT 0).toArray:=by kernel_rfl
theorem S4 (a:Nat) (w:World)  :Calls prog 241 #[(aG (AT a))] w (AX w (qa (decide (a=0)))):=by
 refine AS (args:=[(aG (AT a))]) func241 O O (leB O) (zM (sL [0] O) (q4 (BG (cs:=AT a) O λb1=>asg' O (q3 (sL [1,2] O) (An 0 B3 O (st' (v:=(aG (AT 0))) (AO (zs:=AT 0) (vs:=AT 0) (pv:=[]) (places:=[(0,1),(1,1)]) zeroValue71 underlying71 (λw=>by simp [sizeOf9,sizeOf69]) O (MK )) O (st' (Cf (c:=(decide (a=0))) O O eqGuardType71 (Ha 9998 a 0)) O (asg' O (oNl' (zF (sL [2] O) ?_))))))))))
 exact zC (zH (ret_one O (rd_tmp (v:=(qa (decide (a=0)))) O) (λw hw=>⟨rfl,hw.out⟩)))
theorem DH (v:Nat) (hv:nw v<=1099511627776) (w:World)  :Calls prog 187 #[(aG (AT v))] w (λe w'=>∃b,e=.returned (.slice (jk b) (nw v) (Ay v).length)/\Hu w.heap.size w w'/\w.heap.size<=b/\w'.heap[b]?=some (.cells (Aq (Ay v)).toArray 92 (0,0))):=by
 refine AS (args:=[(aG (AT v))]) func187 O O (leB O) (zM (sL [0] O) (q4 (BG (cs:=AT v) O λb1=>asg' O (q6 (sL [1,2] O) (q4 (st' (v:=(pP b1 1)) (AA O underlying71 O sizeOf9 O) O (A_ 0 (Value.string (Bs v)) UV O (st' (BY (c:=(decide (v<18446744073709551616))) O O Cd) O (oNl' (zF (sL [1,2,8] O) ?_))))))))))
 refine zC ?_
 refine zO O (λhc0=>?_) (λhc0=>?_)
 ·replace hc0:=xR hc0
  refine q4 (st' (v:=(pP b1 0)) (AA O underlying71 O sizeOf69 O) O (A_ 0 (vK .u64 (B7 v)) Gz O (zK (k:=10) (u:=(vK .u64 v)) O (by rw [Bm hc0]) (st' (A6 (c:=((v%4294967296:Nat):Int)) O underlying69 underlying92 Ez) O (st' (v:=(pP b1 0)) (AA O underlying71 O sizeOf69 O) O (A_ 0 (vK .u64 (B7 v)) Gz O (zK (k:=13) (u:=(vK .u64 v)) O (by rw [Bm hc0]) (st' (DD (s:=32) (c:=((v/4294967296:Nat):Int)) O O O jY (Gk (a:=v) (s:=32))) O (st' (A6 (c:=((v/4294967296:Nat):Int)) O underlying69 underlying92 (C4 Z)) O (zn (V:=λb2=>(qz (jk b2) 2 2)) (T:=92) (cs:=Aq ([v%4294967296,v/4294967296])) (AM O) (BH (cs:=Aq ([v%4294967296,v/4294967296])) (pv:=[(0,(vK .u32 (v%4294967296))),(1,(vK .u32 (v/4294967296)))]) underlying255 sizeOf92 zeroValue92 jY jY O jV) O (leB O) λb2=>Bx call189 (λw hw=>Qg _ 2 2 ([v%4294967296,v/4294967296]) (W32.cons Z (W32.cons Z (W32.nil))) jX jX (by simp;try omega) w (hw.get (i:=0) O)) O ?_))))))))))
  refine asg' O (oNl' (zF (sL [1,2] O) (zC (zH (zI ?_)))))
  have hpad:Ay v=[v%4294967296,v/4294967296]:=by simp [Ay,hc0]
  have hnw:nw v=EI [v%4294967296,v/4294967296] 2:=by rw [<-RA (ZP hc0) (m:=2) jX,<-Sy v,hpad];simp [val];congr 1;omega
  have hret:∀b:Nat,(Ending.returned (qz (jk b) (EI ([v%4294967296,v/4294967296]) 2) 2))=.returned (qz (jk b) (nw v) (Ay v).length):=λb=>by rw [hnw,hpad];rfl
  replace hret:=hret b2
  have hcells:(some (Obj.cells (Aq ([v%4294967296,v/4294967296])).toArray 92 (0,0)))=some (Obj.cells (Aq (Ay v)).toArray 92 (0,0)):=by rw [hpad]
  exact ret_one O (rd_tmp (v:=(qz (jk b2) (EI ([v%4294967296,v/4294967296]) 2) 2)) O) (λw hw=>⟨b2,hret,hw.out,hw.fresh (i:=0) O,(hw.get (i:=0) O).trans hcells⟩)
 ·replace hc0:=xQ hc0
  refine zJ (q2 (st' (v:=(pP b1 1)) (AA O underlying71 O sizeOf9 O) O (A_ 0 (Value.string (Bs v)) UV O (st' (v:=(vN ((Bs v).size))) (Cy O underlying9) O (zK (k:=20) (u:=(vN (4*nw v))) O (by rw [FR hc0,Lq,CC];rfl) (st' (FV (c:=(((4*nw v)/4:Nat):Int)) O O Z (Fg (a:=4*nw v) (b:=4) Z)) O (zK (k:=21) (u:=(vN (nw v))) O (by rw [Nat.mul_div_cancel_left _ Z]) (zn (V:=λb2=>(qz (jk b2) (nw v) (nw v))) (T:=92) (cs:=Aq (List.replicate (nw v) 0)) (AM O) (Da (m:=nw v) (c:=nw v) O O Z Z) O (leB O) λb2=>asg' O (q6 (sL [1,2,3] O) (q4 ?_))))))))))
  refine AJ O (st' (v:=(vN (nw v))) (AD O underlying255) O (AJ O (oNl' (zF (sL [1,2,3,24,25] O) (zC (zN ?_))))))
  refine yM (tg λ(i:Nat) (os:List Nat)=>i<=nw v/\os.length=nw v/\os.take i=(AP v).take i/\∀j,i<=j->os.getD j 0=0) (tg λ(i:Nat) (os:List Nat)=>[(1,(pP b1 0)),(2,jj),(3,(qz (jk b2) (nw v) (nw v))),(24,(vN (nw v))),(25,(vN i))]) (tg λ(i:Nat) (os:List Nat)=>[AU b2 92 (Aq os),AU b1 71 (AT v)]) (tg λ(i:Nat) (os:List Nat)=>nw v-i) 0 (List.replicate (nw v) 0) (⟨xu _,by simp,by simp,λj _=>by simp [List.getD_eq_getElem?_getD,List.getElem?_replicate];split<;>rfl⟩) (sF O) sr (λi os hJ=>?_)
  obtain ⟨hin,hl,ht,h0⟩:=hJ
  refine q4 (st' (AW (c:=(decide (i<(nw v)))) O O (B_ (a:=i) (b:=nw v))) O (oNl' (q1 ?_)))
  refine zO O (λhc1=>?_) (λhc1=>?_)
  ·replace hc1:=xR hc1
   refine zJ (q1 (zN (q4 (AJ O (asg' O (q3 (sL [1,2,3,24,25,4] O) (AJ O (oNl' (zC (zN ?_))))))))))
   refine yM (tg λ(k:Nat) (xs:List Nat)=>k<=4/\xs=os.set i ((AP v).getD i 0%256^k)) (tg λ(k:Nat) (xs:List Nat)=>[(1,(pP b1 0)),(2,jj),(3,(qz (jk b2) (nw v) (nw v))),(24,(vN (nw v))),(25,(vN i)),(4,(vN i)),(28,(vN k))]) (tg λ(k:Nat) (xs:List Nat)=>[AU b2 92 (Aq xs),AU b1 71 (AT v)]) (tg λ(k:Nat) (xs:List Nat)=>4-k) 0 os (⟨Z,by rw [Nat.pow_zero,Nat.mod_one];exact XV (h0 i (Nat.le_refl _))⟩) (sF O) sr (λk xs hJ=>?_)
   obtain ⟨hk,hxs⟩:=hJ
   refine q4 (st' (AW (c:=(decide (k<4))) O O (B_ (a:=k) (b:=4))) O (oNl' (q1 ?_)))
   refine zO O (λhc2=>?_) (λhc2=>?_)
   ·replace hc2:=xR hc2
    refine zJ (q1 (zN (q4 (AJ O (asg' O (oNl' (zF (sL [1,2,3,24,25,4,28,5] O) (zC (CE [(0,true),(1,true),(2,true),(4,true),(5,true),(6,true),(7,true),(8,true),(9,true),(10,true),(11,true),(12,true),(13,true),(14,true),(3,false),(15,true),(16,true),(17,false)] (sl sr) ?_)))))))))
    have hi:i<nw v:=hc1
    have hxi:xs.getD i 0=(AP v).getD i 0%256^k:=by rw [hxs];simp [hl,hi]
    have hxl:xs.length=nw v:=by rw [hxs];simp [hl]
    have hby:(AP v).getD i 0/256^k%256<256:=Nat.mod_lt _ Z
    have hget:(Bs v)[4*i+k]?=some (UInt8.ofNat ((AP v).getD i 0/256^k%256)):=by rw [FR hc0,US (by rw [CC];show 4*i+k<4*nw v;omega),GX _ _ _ hi hc2]
    have hw32:xs.getD i 0<4294967296:=by rw [hxi];exact Nat.lt_of_le_of_lt (Nat.mod_le _ _) ((Bz v).getD i)
    refine Bl O (Bl O (Ag (v:=(pP b2 i)) O (AL (j:=i) O O underlying255 sizeOf92 O Z jX) (Ag (v:=(pP b1 1)) O (AA O underlying71 O sizeOf9 O) (BC 0 (Value.string (Bs v)) UV O (Bl O (Ag O (D7 (c:=((4*i:Nat):Int)) O O (GN (a:=4) (b:=i) Z)) (Bl O (Ag O (AV (c:=(((4*i)+k:Nat):Int)) O O (AY (a:=4*i) (b:=k) Z)) (Ag (v:=(vK .u8 ((AP v).getD i 0/256^k%256))) O (IX (j:=4*i+k) (m:=(AP v).getD i 0/256^k%256) O O underlying9 hget hby) (Ag O (A6 (c:=(((AP v).getD i 0/256^k%256:Nat):Int)) O underlying5 underlying92 (C4 Z)) (Bl O ?_)))))))))))
    refine Ag O (D7 (c:=((8*k:Nat):Int)) O O (GN (a:=8) (b:=k) Z)) (Ag (v:=(vK .u32 ((AP v).getD i 0/256^k%256*2^(8*k)))) O (G4 (s:=8*k) O O O (show 8*k<=32 by omega) (XY (R5 hc2))) (zL O (st' (AE (i:=0) (v:=(vK .u32 (xs.getD i 0))) O O isAgg92 (BJ (xs:=xs) (j:=i) Z)) O (zG (sl sr) (Ag O (Jk (c:=(((AP v).getD i 0%256^(k+1):Nat):Int)) O O (KW hw32 (R5 hc2) (TH hxi))) (Ag (v:=(pP b2 i)) O (AL (j:=i) O O underlying255 sizeOf92 O Z jX) (zL O (z8 (i:=0) (off:=i) (vs:=[(vK .u32 ((AP v).getD i 0%256^(k+1)))]) (cs':=Aq (xs.set i ((AP v).getD i 0%256^(k+1)))) (L':=[AU b2 92 (Aq (xs.set i ((AP v).getD i 0%256^(k+1)))),AU b1 71 (AT v)]) (AM O) O O O O O sizeOf92 O (C2 (BW _) Z) (CR Z) O (zG (sl sr) (zT (zF (sL [1,2,3,24,25,4,28] O) ?_)))))))))))
    exact zP (zC (zQ (st' (AV (c:=((k+1:Nat):Int)) O O (AY (a:=k) (b:=1) Z)) O (AJ O (oNl' (zF (sL [1,2,3,24,25,4,28] O) (z6 (k+1) (xs.set i ((AP v).getD i 0%256^(k+1))) (⟨Z,by rw [hxs,List.set_set]⟩) Z (sF O) sr)))))))
   ·replace hc2:=xQ hc2
    refine zY (zR (zp (zV (zP (zC (zQ (st' (AV (c:=((i+1:Nat):Int)) O O (AY (a:=i) (b:=1) Z)) O (AJ O (oNl' (zF (sL [1,2,3,24,25,4,28] O) ?_))))))))))
    have hst:=Rq (ws:=AP v) (xs:=xs) hl rfl hc1 ht h0 (by rw [hxs,show k=4 by omega];congr 1;exact Nat.mod_eq_of_lt ((Bz v).getD i))
    exact z6 (i+1) xs (⟨Z,hst.1,hst.2.1,hst.2.2⟩) Z (sF O) sr
  ·replace hc1:=xQ hc1
   refine zY (zR (zp (zV (q2 (AJ O (asg' O (oNl' (zF (sL [1,2,3,24,25] O) (zC (zH ?_))))))))))
   have hpad:Ay v=AP v:=by simp [Ay,hc0]
   have hos:os=AP v:=XN hl rfl hc1 ht
   have hret:∀b:Nat,(Ending.returned (qz (jk b) (nw v) (nw v)))=.returned (qz (jk b) (nw v) (Ay v).length):=λb=>by rw [hpad];rfl
   replace hret:=hret b2
   have hcells:(some (Obj.cells (Aq os).toArray 92 (0,0)))=some (Obj.cells (Aq (Ay v)).toArray 92 (0,0)):=by rw [hpad,hos]
   exact ret_one O (rd_tmp (v:=(qz (jk b2) (nw v) (nw v))) O) (λw hw=>⟨b2,hret,hw.out,hw.fresh (i:=0) O,(hw.get (i:=0) O).trans hcells⟩)
end
section
set_option maxRecDepth 100000
theorem Jo (b m c:Nat) (bs:List Nat) (hbs:W32 bs) (hm:m<=bs.length) (hc:m<=c) (hL:c<4398046511104) (w:World) (hb:w.heap[b]?=some (.cells (Aq bs).toArray 92 (0,0))):Calls prog 206 #[(qz (jk b) m c)] w (AX w (aG (AT (val (bs.take m))))):=by
 have hle:=KF bs m
 have hval:=L5 bs m
 have hwd:=Jc hbs hm
 have hnw:=RA hbs hm
 generalize hK:EI bs m=K at *
 refine AS (args:=[(qz (jk b) m c)]) func206 O O (leB O) (zM (sL [0] O) (q4 (al Gl O λb1=>oNl' (q2 (AJ O (Bx call189 (λw hw=>Qg _ m c bs hbs Z Z Z w (hw.old jX hb)) O (zK (k:=10) (u:=(qz (jk b) K c)) O (by rw [hK]) (asg' O (q6 (sL [0,2] O) (q4 ?_))))))))))
 refine AJ O (st' (v:=(vN K)) (AD O underlying255) O (st' (Ee (c:=(decide (K<=2))) O O (Qz (a:=K) (b:=2))) O (oNl' (zF (sL [0,2,13] O) (zC ?_)))))
 refine zO O (λhc0=>?_) (λhc0=>?_)
 ·replace hc0:=xR hc0
  refine q4 (asg' O (oNl' (q1 (q4 (AJ O (st' (v:=(vN K)) (AD O underlying255) O (AJ O (oNl' (zC (zN ?_))))))))))
  refine yM (tg λ(i:Nat) (n:Nat)=>i<=K/\n=val (bs.take i)) (tg λ(i:Nat) (n:Nat)=>[(0,(qz (jk b) K c)),(2,(pP b1 0)),(14,(qz (jk b) K c)),(15,(vN K)),(16,(vN i)),(3,(vK .u64 n))]) (tg λ(i:Nat) (n:Nat)=>[AU b1 71 (AT 0)]) (tg λ(i:Nat) (n:Nat)=>K-i) 0 0 (⟨xu _,by simp [val]⟩) (sF O) sr (λi n hJ=>?_)
  obtain ⟨hi,hn⟩:=hJ
  refine q4 (st' (AW (c:=(decide (i<K))) O O (B_ (a:=i) (b:=K))) O (oNl' (q1 ?_)))
  refine zO O (λhc1=>?_) (λhc1=>?_)
  ·replace hc1:=xR hc1
   refine zJ (q1 (zN (q4 (AJ O (st' (v:=(pP b i)) (AL (j:=i) O O underlying255 sizeOf92 O Z jX) O ?_)))))
   have hx1:bs.getD i 0<4294967296:=W32.getD hbs i
   refine st' (Be (v:=(vK .u32 (bs.getD i 0))) O (λw' hw=>CA.at0 (hw.oldCA jX (FT hb)) (BJ (xs:=bs) (j:=i) Z)) isAgg92) O (asg' O (asg' O (oNl' (zF (sL [0,2,14,15,16,3,4,5] O) (zC (zQ (AJ O (AJ O (st' (A6 (c:=((bs.getD i 0:Nat):Int)) O underlying92 underlying69 (BT Z)) O (AJ O ?_))))))))))
   have hiK:i<K:=hc1
   have hi2:i<2:=by omega
   have hn2:n<4294967296^i:=by rw [hn];exact Nat.lt_of_lt_of_le (HT (hbs.take i)) (Nat.pow_le_pow_right Z (by simp;omega))
   have hsh:=XX (i:=i) (hbs.getD i) hi2
   have hn3:n<18446744073709551616:=UO hn2 hi2
   refine st' (D7 (c:=((32*i:Nat):Int)) O O (GN (a:=32) (b:=i) Z)) O (st' (v:=(vK .u64 (bs.getD i 0*2^(32*i)))) (G4 (s:=32*i) O O O (show 32*i<=64 by omega) (HO hsh)) O (st' (Jk (c:=((n+bs.getD i 0*2^(32*i):Nat):Int)) O O (KX hn3 hsh (IF (by rw [<-aU];exact hn2)))) O (asg' O (oNl' (zF (sL [0,2,14,15,16,3] O) (zP (zC (zQ (st' (AV (c:=((i+1:Nat):Int)) O O (AY (a:=i) (b:=1) Z)) O (AJ O (oNl' ?_)))))))))))
   exact zF (sL [0,2,14,15,16,3] O) (z6 (i+1) (n+bs.getD i 0*2^(32*i)) (⟨Z,by rw [Bg,<-hn,aU]⟩) Z (sF O) sr)
  ·replace hc1:=xQ hc1
   refine zY (zR (zp (zV (q2 (AJ O ?_)))))
   have hnn:n=val (bs.take K):=by rw [hn,show i=K by omega]
   have hv2:val (bs.take m)<18446744073709551616:=by rw [<-hval];exact Nat.lt_of_lt_of_le (HT (hbs.take K)) (by rw [List.length_take];exact xx (Nat.pow_le_pow_right (n:=4294967296) Z (show min K bs.length<=2 by omega)) jY)
   exact st' (v:=(aG ([(vK .u64 n),(Value.string (Bs 0))]))) (AO (zs:=AT 0) (vs:=[(vK .u64 n),(Value.string (Bs 0))]) (pv:=[(0,(vK .u64 n))]) (places:=[(0,1),(1,1)]) zeroValue71 underlying71 (λw=>by simp [sizeOf9,sizeOf69]) O O) O (zK (k:=30) (u:=(aG (AT (val (bs.take m))))) O (by rw [D9 hv2,<-hval,<-hnn];rfl) (Aj O sizeOf71 O (oNl' (zF (sL [0,2,14,15,16,3] O) (zC (zH (zI (ret_one O (Ah (i:=0) (cs:=AT (val (bs.take m))) O O isAgg71 sizeOf71 O) (λw hw=>⟨rfl,hw.out⟩)))))))))
 ·replace hc0:=xQ hc0
  refine zJ (q2 (AJ O (st' (v:=(vN K)) (AD O underlying255) O (st' (D7 (c:=((4*K:Nat):Int)) O O (GN (a:=4) (b:=K) Z)) O (zn (V:=λb2=>(qz (jk b2) 0 (4*K))) (T:=5) (cs:=KB (List.replicate (4*K) 0)) (AM O) (RD (m:=0) (c:=4*K) O O Z Z) O (leB O) λb2=>asg' O (q6 (sL [0,2,6] O) (q4 (AJ O (st' (v:=(vN K)) (AD O underlying255) O (AJ O ?_))))))))))
  refine oNl' (zC (zN ?_))
  refine yM (tg λ(i:Nat) (bz:List Nat)=>i<=K/\bz=bytesN (bs.take i)++List.replicate (4*(K-i)) 0) (tg λ(i:Nat) (bz:List Nat)=>[(2,(pP b1 0)),(35,(qz (jk b) K c)),(36,(vN K)),(37,(vN i)),(6,(qz (jk b2) (4*i) (4*K)))]) (tg λ(i:Nat) (bz:List Nat)=>[AU b2 5 (KB bz),AU b1 71 (AT 0)]) (tg λ(i:Nat) (bz:List Nat)=>K-i) 0 (List.replicate (4*K) 0) (⟨xu _,by simp [bytesN]⟩) (sF O) sr (λi bz hJ=>?_)
  obtain ⟨hi,hz⟩:=hJ
  refine q4 (st' (AW (c:=(decide (i<K))) O O (B_ (a:=i) (b:=K))) O (oNl' (q1 ?_)))
  refine zO O (λhc2=>?_) (λhc2=>?_)
  ·replace hc2:=xR hc2
   refine zJ (q1 (zN (q4 (st' (v:=(pP b i)) (AL (j:=i) O O underlying255 sizeOf92 O Z jX) O ?_))))
   have hx2:bs.getD i 0<4294967296:=W32.getD hbs i
   refine st' (Be (v:=(vK .u32 (bs.getD i 0))) O (λw' hw=>CA.at0 (hw.oldCA jX (FT hb)) (BJ (xs:=bs) (j:=i) Z)) isAgg92) O (asg' O (oNl' (zF (sL [2,35,36,37,6,8] O) (zC (zQ (AJ O (AJ O (st' (A6 (c:=(((bs.getD i 0)%256:Nat):Int)) O underlying92 underlying5 KT) O (AJ O (st' (DD (s:=8) (c:=(((bs.getD i 0)/256:Nat):Int)) O O O jY (Gk (a:=bs.getD i 0) (s:=8))) O (st' (A6 (c:=((((bs.getD i 0)/256)%256:Nat):Int)) O underlying92 underlying5 KT) O ?_)))))))))))
   refine AJ O (st' (DD (s:=16) (c:=(((bs.getD i 0)/65536:Nat):Int)) O O O jY (Gk (a:=bs.getD i 0) (s:=16))) O (st' (A6 (c:=((((bs.getD i 0)/65536)%256:Nat):Int)) O underlying92 underlying5 KT) O (AJ O (st' (DD (s:=24) (c:=(((bs.getD i 0)/16777216:Nat):Int)) O O O jY (Gk (a:=bs.getD i 0) (s:=24))) O (st' (A6 (c:=((((bs.getD i 0)/16777216)%256:Nat):Int)) O underlying92 underlying5 KT) O (zn (V:=λb3=>(qz (jk b3) 4 4)) (T:=5) (cs:=KB ([(bs.getD i 0)%256,((bs.getD i 0)/256)%256,((bs.getD i 0)/65536)%256,((bs.getD i 0)/16777216)%256])) (AM O) (BH (cs:=KB ([(bs.getD i 0)%256,((bs.getD i 0)/256)%256,((bs.getD i 0)/65536)%256,((bs.getD i 0)/16777216)%256])) (pv:=[(0,(vK .u8 ((bs.getD i 0)%256))),(1,(vK .u8 (((bs.getD i 0)/256)%256))),(2,(vK .u8 (((bs.getD i 0)/65536)%256))),(3,(vK .u8 (((bs.getD i 0)/16777216)%256)))]) underlying86 sizeOf5 zeroValue5 jY jY O jV) O (leB O) λb3=>?_))))))
   obtain ⟨bz2,hz2,hlay⟩:∃bz2,bz2=bytesN (bs.take (i+1))++List.replicate (4*(K-(i+1))) 0/\Gy (KB bz) (4*i) (KB ([(bs.getD i 0)%256,((bs.getD i 0)/256)%256,((bs.getD i 0)/65536)%256,((bs.getD i 0)/16777216)%256]))=KB bz2:=⟨_,rfl,by rw [hz];exact QX hc2 Z⟩
   exact AQ.append_u8 (i:=1) (j:=0) (m:=4*i) (c:=4*K) (k:=4) (cs':=KB bz2) (L':=[AU b3 5 (KB ([(bs.getD i 0)%256,((bs.getD i 0)/256)%256,((bs.getD i 0)/65536)%256,((bs.getD i 0)/16777216)%256])),AU b2 5 (KB bz2),AU b1 71 (AT 0)]) O (AM O) O O O O O O Z (by rw [IP,hz];simp [CC];omega) hlay O (leB O) (asg' O (oNl' (zF (sL [2,35,36,37,6] O) (zP (zC (zQ (st' (AV (c:=((i+1:Nat):Int)) O O (AY (a:=i) (b:=1) Z)) O (AJ O (oNl' (zF (sL [2,35,36,37,6] O) (z6 (i+1) bz2 (⟨Z,hz2⟩) Z (sF O) (sl sr))))))))))))
  ·replace hc2:=xQ hc2
   refine zY (zR (zp (zV (q2 (AJ O ?_)))))
   have hbl:bz.length=4*i:=by rw [hz,xw,CC,List.length_take,List.length_replicate];omega
   have htk:(KB bz).take (4*i)=KB bz:=List.take_of_length_le (by rw [IP];omega)
   refine st' (v:=(Value.string (Df bz))) (Jw (i:=0) (m:=4*i) (ns:=bz) O O htk hbl) O ?_
   have hv3:¬val (bs.take m)<18446744073709551616:=λh=>by have:=Lc h;omega
   have hbz:bz=bytesN (bs.take K):=by rw [hz,show i=K by omega];simp
   exact st' (v:=(aG ([(vK .u64 (B7 0)),(Value.string (Df bz))]))) (AO (zs:=AT 0) (vs:=[(vK .u64 (B7 0)),(Value.string (Df bz))]) (pv:=[(1,(Value.string (Df bz)))]) (places:=[(0,1),(1,1)]) zeroValue71 underlying71 (λw=>by simp [sizeOf9,sizeOf69]) O O) O (zK (k:=58) (u:=(aG (AT (val (bs.take m))))) O (by rw [Wj hv3,hwd,<-hbz];rfl) (CP O sizeOf71 O (oNl' (zF (sL [2,35,36,37,6] O) (zC (zH (ret_one O (Ah (i:=1) (cs:=AT (val (bs.take m))) O O isAgg71 sizeOf71 O) (λw hw=>⟨rfl,hw.out⟩))))))))
end
section
def DO (a b:Nat):Int:=if a<b then -1 else if a=b then 0 else 1
theorem Fq {a b:Nat}:DO a b<0↔a<b:=by
  unfold DO;split
  · omega
  · split<;>omega
theorem Nj {a b:Nat}:DO a b=0↔a=b:=by
  unfold DO;split
  · omega
  · split<;>omega
theorem Yb {a b:Nat} (h:nw a≠nw b):((nw a:Int)-(nw b:Int)).sign=DO a b:=by
  unfold DO
  by_cases h1:nw a<nw b
  · have h2:a<b:=by
      rcases Nat.lt_or_ge a b with h2|h2
      · exact h2
      · have:=Ct h2;omega
    rw [if_pos h2,Int.sign_eq_neg_one_of_neg Z]
  · have h2:b<a:=by
      rcases Nat.lt_or_ge b a with h2|h2
      · exact h2
      · have:=Ct h2;omega
    rw [if_neg Z,if_neg Z,Int.sign_eq_one_of_pos Z]
theorem Vf {xs ys:List Nat} {k:Nat} (hx:W32 xs) (hl:xs.length=ys.length) (h0:0<k) (hk:k<=xs.length) (hd:xs.drop k=ys.drop k) (h:xs.getD (k-1) 0<ys.getD (k-1) 0):val xs<val ys:=by
  have e1:=FQ xs k hk
  have e2:=FQ ys k Z
  have s1:=Bg xs (k-1)
  have s2:=Bg ys (k-1)
  rw [show k-1+1=k by omega] at s1 s2
  have h1:val (xs.take (k-1))<4294967296^(k-1):=Nat.lt_of_lt_of_le (HT (hx.take (k-1))) (Nat.pow_le_pow_right Z (by simp;omega))
  have h2:(xs.getD (k-1) 0+1)*4294967296^(k-1)<=ys.getD (k-1) 0*4294967296^(k-1):=Nat.mul_le_mul_right _ h
  rw [Nat.add_mul] at h2
  rw [hd] at e1
  omega
theorem TS {xs ys:List Nat} {k:Nat} (hl:xs.length=ys.length) (h0:0<k) (hk:k<=xs.length) (hd:xs.drop k=ys.drop k) (h:xs.getD (k-1) 0=ys.getD (k-1) 0):xs.drop (k-1)=ys.drop (k-1):=by
  have h1:k-1<xs.length:=by omega
  have h2:k-1<ys.length:=by omega
  rw [List.drop_eq_getElem_cons h1,List.drop_eq_getElem_cons h2,show k-1+1=k by omega,hd]
  simp [h1,h2] at h
  rw [h]
theorem TL {a b k:Nat} (hl:nw a=nw b) (h0:0<k) (hk:k<=nw a) (hd:(AP a).drop k=(AP b).drop k) (hne:(AP a).getD (k-1) 0≠(AP b).getD (k-1) 0) :
    DO a b=if (AP a).getD (k-1) 0<(AP b).getD (k-1) 0 then -1 else 1:=by
  unfold DO
  split
  · rename_i h
    rw [if_pos]
    rcases Nat.lt_or_ge ((AP a).getD (k-1) 0) ((AP b).getD (k-1) 0) with h1|h1
    · exact h1
    · have:=Vf (Bz b) hl.symm h0 (by unfold nw at *;omega) hd.symm (show (AP b).getD (k-1) 0<(AP a).getD (k-1) 0 by omega)
      rw [Co,Co] at this;omega
  · rename_i h
    have h2:¬(AP a).getD (k-1) 0<(AP b).getD (k-1) 0:=λh1=>by
      have:=Vf (Bz a) hl h0 hk hd h1
      rw [Co,Co] at this;omega
    rw [if_neg h2,if_neg]
    intro e;subst e;exact hne rfl
theorem Vg {a b:Nat} (hd:(AP a).drop 0=(AP b).drop 0):DO a b=0:=by
  rw [Nj]
  rw [List.drop_zero,List.drop_zero] at hd
  rw [<-Co a,<-Co b,hd]
theorem Db {v i:Nat} (h:i<nw v):(Ay v).getD i 0=(AP v).getD i 0:=by
  rw [<-Im v]
  simp [List.getD_eq_getElem?_getD,List.getElem?_take,h]
theorem E8 {v i:Nat} (h:¬i<nw v):(AP v).getD i 0=0:=by
  unfold nw at h;simp [List.getD_eq_getElem?_getD,Nat.not_lt.1 h]
theorem Dh {v i:Nat} (h:nw v<=i):val ((AP v).take i)=v:=by
  rw [List.take_of_length_le h,Co]
theorem ZQ (v:Nat):(Ay v).length<=nw v+2:=by
  unfold Ay;split
  · simp
  · unfold nw;omega
theorem I0 (v:Nat):val ((Ay v).take (nw v))=v:=by rw [Im,Co]
theorem Oi {os ys:List Nat} {X i n c:Nat} (hl:os.length=n) (hi:i<n) (hv:val os+c*4294967296^i=X+val (ys.take i)) :
    val (os.set i ((os.getD i 0+ys.getD i 0+c)%4294967296))+(os.getD i 0+ys.getD i 0+c)/4294967296*4294967296^(i+1)=X+val (ys.take (i+1)):=by
  have e:=F3 (xs:=os) (i:=i) Z ((os.getD i 0+ys.getD i 0+c)%4294967296)
  have t:=Bg ys i
  have hm:=Nat.div_add_mod (os.getD i 0+ys.getD i 0+c) 4294967296
  rw [Nat.pow_succ]
  generalize os.getD i 0=o at *
  generalize ys.getD i 0=y at *
  generalize (o+y+c)/4294967296=q at *
  generalize (o+y+c)%4294967296=r at *
  generalize 4294967296^i=p at *
  have hm2:(4294967296*q+r)*p=(o+y+c)*p:=by rw [hm]
  grind
theorem Oh {os:List Nat} {X Y n c i:Nat} (hl:os.length=n) (hw:W32 os) (hi:n<=i) (hX:X+Y<4294967296^n) (hv:val os+c*4294967296^i=X+Y):val os=X+Y:=by
  have h1:4294967296^n<=4294967296^i:=Nat.pow_le_pow_right Z hi
  rcases Nat.eq_zero_or_pos c with h|h
  · subst h;omega
  · have:1*4294967296^i<=c*4294967296^i:=Nat.mul_le_mul_right _ h
    omega
theorem Xi {os ys:List Nat} {X i n c:Nat} (hl:os.length=n) (hi:i<n) (hw:W32 os) (hy:W32 ys) (hc:c<=1) (hv:val os+val (ys.take i)=X+c*4294967296^i) :
    val (os.set i ((os.getD i 0+(4294967296-ys.getD i 0)+(4294967296-c))%4294967296))+val (ys.take (i+1))=X+Jh (os.getD i 0) (ys.getD i 0+c)*4294967296^(i+1):=by
  have e:=F3 (xs:=os) (i:=i) Z ((os.getD i 0+(4294967296-ys.getD i 0)+(4294967296-c))%4294967296)
  have t:=Bg ys i
  have ho:=hw.getD i
  have hy':=hy.getD i
  rw [Nat.pow_succ]
  have hm:(os.getD i 0+(4294967296-ys.getD i 0)+(4294967296-c))%4294967296+ys.getD i 0+c=os.getD i 0+Jh (os.getD i 0) (ys.getD i 0+c)*4294967296:=by
    unfold Jh;split<;>omega
  generalize (os.getD i 0+(4294967296-ys.getD i 0)+(4294967296-c))%4294967296=r at *
  generalize Jh (os.getD i 0) (ys.getD i 0+c)=q at *
  generalize os.getD i 0=o at *
  generalize ys.getD i 0=y at *
  generalize 4294967296^i=p at *
  have hm2:(r+y+c)*p=(o+q*4294967296)*p:=by rw [hm]
  grind
theorem Xh {os:List Nat} {X Y n c i:Nat} (hl:os.length=n) (hw:W32 os) (hi:i=n) (hX:Y<=X) (hv:val os+Y=X+c*4294967296^i) (hX2:X<4294967296^n):val os=X-Y:=by
  have h1:=HT hw
  rw [hl] at h1
  subst hi
  rcases Nat.eq_zero_or_pos c with h|h
  · subst h;omega
  · have:1*4294967296^i<=c*4294967296^i:=Nat.mul_le_mul_right _ h
    omega
theorem QW (x y:Nat):Jh x y<=1:=by unfold Jh;split<;>omega
theorem Wg {os ys:List Nat} {S W i k n c:Nat} (hl:os.length=n) (hi:i+k<n) (hv:val os+c*4294967296^(i+k)=S+W*val (ys.take k)*4294967296^i) :
    val (os.set (i+k) ((c+(W*ys.getD k 0+os.getD (i+k) 0))%4294967296))+(c+(W*ys.getD k 0+os.getD (i+k) 0))/4294967296*4294967296^(i+(k+1))=S+W*val (ys.take (k+1))*4294967296^i:=by
  have e:=F3 (xs:=os) (i:=i+k) Z ((c+(W*ys.getD k 0+os.getD (i+k) 0))%4294967296)
  have t:=Bg ys k
  have hm:=Nat.div_add_mod (c+(W*ys.getD k 0+os.getD (i+k) 0)) 4294967296
  rw [t,show i+(k+1)=i+k+1 by omega,Nat.pow_succ]
  rw [Nat.pow_add] at *
  generalize os.getD (i+k) 0=o at *
  generalize ys.getD k 0=y at *
  generalize (c+(W*y+o))/4294967296=q at *
  generalize (c+(W*y+o))%4294967296=r at *
  generalize 4294967296^i=p at *
  generalize 4294967296^k=p' at *
  generalize val (ys.take k)=vy at *
  have hm2:(4294967296*q+r)*(p*p')=(c+(W*y+o))*(p*p'):=by rw [hm]
  grind
section
variable {n:Nat} {F:List (Nat×Value)} {w0:BA} {L:List As} {v:Value} {x y:Operand} {d:Option Tmp} {t:TypeId} {p:String} {af:Array Edge} {g:Option (Nat×Bool)}
theorem xA {ops:Array Oper} {rest:List Oper} {Q:Exit->Act->World->Prop} {L':List As} {i j b b' m c k c' dd:Nat} {cs ds ns cs':List Value} {o:Oper} (ho:o=⟨some dd,.call { callee:=.builtin .copy,args:=#[x,y],argTypes:=#[255,255] },t,p,af,g⟩) (hw:Wt ops n F o)
    (hx:evF F x=some (.slice (jk b) m c)) (hy:evF F y=some (.slice (some ⟨b',0,none⟩) k c')) (hi:L[i]?=some (AU b 92 cs)) (hj:L[j]?=some (AU b' 92 ds)) (hns:ds.take k=ns) (hnl:ns.length=k) (h1:(ns.all λu=>u.oneCell')=true) (hkm:k<=m) (hfit:k<=cs.length)
    (hcs:Gy cs 0 ns=cs') (hL:L.set i (AU b 92 cs')=L') (hd:dd<n) (next:AQ prog ops rest Q n ((dd,.int .i64 k)::F) w0 L'):AQ prog ops (o::rest) Q n F w0 L:=λa w ha hW=>by
  subst ho;subst hcs;subst hL
  unfold wpList
  rw [if_pos (hw a ha)]
  left
  have hca:=Ea (off:=0) (k:=k) (hW.get hj)
  rw [List.drop_zero,hns] at hca
  have hr:=run_copy_row (P:=prog) w 255 255 t 92 b 0 m c ⟨b',0,none⟩ k c' cs.toArray 92 ns underlying255 jV (hW.get hi) (by rw [hnl];exact (Nat.min_eq_left hkm).symm) (λq u hu=>by rw [Addr.add_lit];exact hca q u hu) (by simp;omega) (λu hu=>List.all_eq_true.1 h1 u hu)
  unfold Oper.wp
  have he:(execOp a.eval ⟨some dd,.call { callee:=.builtin .copy,args:=#[x,y],argTypes:=#[255,255] },t,p,af,g⟩).run prog w=.ok (.value (.int .i64 k)) (w.setRow b (Gy cs 0 ns).toArray):=by
    simp only [execOp,resolve,invoke,builtin,Sem.run_bind,Sem.run_pure,Result.andThen_ok,List.map_toArray,List.map_cons,List.map_nil,ha.ev hx,ha.ev hy,hr,Gy,hnl,goInt]
  rw [he,Oper.upon_value]
  have hg:=hW.get hi
  exact next _ _ (ha.put hd) (hW.turn hi O O ⟨⟨rfl,rfl,rfl,by simp,λq _ hq=>setRow_other w b q _ (λe=>hq (by simp [e]))⟩,Nat.le_refl _⟩ ⟨_,setRow_heap w b cs.toArray _ 92 _ hg,rfl⟩)
end
theorem Xj {a b:Nat} (h:nw b<=nw a):a+b<4294967296^(nw a+1):=by
  have h1:=Bp a
  have h2:b<4294967296^nw a:=CJ.1 h
  rw [Nat.pow_succ];omega
theorem GG (v k:Nat):(AP v++(List.replicate (nw v+k) 0).drop (AP v).length).length=nw v+k/\W32 (AP v++(List.replicate (nw v+k) 0).drop (AP v).length)/\val (AP v++(List.replicate (nw v+k) 0).drop (AP v).length)=v:=by
  have e:(List.replicate (nw v+k) 0).drop (AP v).length=List.replicate k 0:=by rw [List.drop_replicate];congr 1;unfold nw;omega
  rw [e]
  refine ⟨by simp [nw],(Bz v).append (W32.zeros k),?_⟩
  rw [L4,Co,Ej];omega
theorem Ii {os:List Nat} {p c n:Nat} (hl:os.length=n) (hp:p<n) (h0:os.getD p 0=0):val (os.set p c)=val os+c*4294967296^p:=by
  have e:=F3 (xs:=os) (i:=p) Z c
  rw [h0] at e;omega
theorem Rt {os:List Nat} {a b i:Nat} (hv:val os=val ((AP a).take i)*b):∀j,i+nw b<=j->os.getD j 0=0:=λj hj=>by
  refine Gs (m:=i+nw b) ?_ hj
  rw [hv,Nat.pow_add]
  refine Nat.mul_lt_mul'' (Nat.lt_of_lt_of_le (HT ((Bz a).take i)) (Nat.pow_le_pow_right Z (by simp;omega))) (Bp b)
theorem GR {os:List Nat} {p q v:Nat} (h:∀j,p<=j->os.getD j 0=0) (hq:q<p):∀j,p<=j->(os.set q v).getD j 0=0:=λj hj=>by
  rw [List.getD_eq_getElem?_getD,List.getElem?_set_ne Z,<-List.getD_eq_getElem?_getD]
  exact h j hj
theorem ZF {a b i:Nat}:val ((AP a).take i)*b+(AP a).getD i 0*b*4294967296^i=val ((AP a).take (i+1))*b:=by
  rw [Bg];grind
theorem cw {x y:Nat} (hx:x<18446744073709551616) (hy:y<18446744073709551616):val [x%4294967296,x/4294967296,y%4294967296,y/4294967296]=x+y*18446744073709551616:=by
  simp only [val];omega
theorem P5 (xs:List Nat):((Aq xs).all λu=>u.oneCell')=true:=List.all_eq_true.2 (Xw xs)
theorem NR (xs:List Nat) (k:Nat):(Aq xs).take k=Aq (xs.take k):=by simp [Aq,List.map_take]
theorem P6 (xs ns:List Nat):Gy (Aq xs) 0 (Aq ns)=Aq (ns++xs.drop ns.length):=by simp [Gy,Aq,List.map_drop]
end
section
set_option maxRecDepth 100000
theorem az (a b p q c c2:Nat) (ha:nw a<=1099511627776) (hb:nw b<=1099511627776) (w:World) (hp:w.heap[p]?=some (.cells (Aq (Ay a)).toArray 92 (0,0))) (hq:w.heap[q]?=some (.cells (Aq (Ay b)).toArray 92 (0,0))):Calls prog 271 #[(qz (jk p) (nw a) c),(qz (jk q) (nw b) c2)] w (AX w (vI (DO a b))):=by
 have hla:=CK a
 have hlb:=CK b
 refine AS (args:=[(qz (jk p) (nw a) c),(qz (jk q) (nw b) c2)]) func271 O O (leB O) (zM (sL [0,1] O) (q4 (asg' O (oNl' (q1 (q4 (AJ O (st' (v:=(vN (nw a))) (AD O underlying255) O (AJ O (st' (v:=(vN (nw b))) (AD O underlying255) O (st' (Bf (c:=(decide ((nw a)≠(nw b)))) O O (Q8 (a:=nw a) (b:=nw b))) O ?_)))))))))))
 refine oNl' (zF (sL [0,1,4,10] O) (zC ?_))
 refine zO O (λhc0=>?_) (λhc0=>?_)
 ·replace hc0:=xR hc0
  refine q4 (AJ O (st' (v:=(vN (nw a))) (AD O underlying255) O (AJ O (st' (v:=(vN (nw b))) (AD O underlying255) O (st' (Bc (c:=((nw a:Int)-(nw b:Int))) O O (BZ Z Z)) O (ck' call296 (Zp _ Z Z) O (zK (k:=16) (u:=(vI (DO a b))) O (by rw [Yb hc0]) (asg' O (oNl' (zF (sL [0,1,4] O) (zC ?_)))))))))))
  exact zH (zI (ret_one O (rd_tmp (v:=(vI (DO a b))) O) (λw hw=>⟨rfl,hw.out⟩)))
 ·replace hc0:=xQ hc0
  refine zJ (q1 (q4 (AJ O (st' (v:=(vN (nw a))) (AD O underlying255) O (st' (Bc (c:=(((nw a:Nat):Int)-1)) O O (BZ Z Z)) O (asg' O (oNl' (zF (sL [0,1,4,5] O) (zC (zN ?_))))))))))
  refine zw (tg λ(k:Nat)=>k<=nw a/\(AP a).drop k=(AP b).drop k) (tg λ(k:Nat)=>[(0,(qz (jk p) (nw a) c)),(1,(qz (jk q) (nw b) c2)),(5,(vI (((k:Nat):Int)-1)))]) (tg λ(k:Nat)=>[]) (tg λ(k:Nat)=>k) (nw a) (⟨Nat.le_refl _,by rw [List.drop_of_length_le (by exact Nat.le_refl _),List.drop_of_length_le (by unfold nw at *;omega)]⟩) (sF O) sr (λk hJ=>?_)
  obtain ⟨hk,hd⟩:=hJ
  refine zf (q4 (AJ O (st' (CU (c:=(decide ((0:Int)<=(((k:Nat):Int)-1)))) O O O) O (oNl' (zF (sL [0,1,5,21] O) (zC ?_))))))
  refine zO O (λhc1=>?_) (λhc1=>?_)
  ·replace hc1:=xR hc1
   have hk0:0<k:=by omega
   refine yT (k:=5) (u:=(vN (k-1))) O (by congr 1;omega) (zJ (q1 (zN (zf (CE (Dm 9) sr ?_)))))
   have ea:(Ay a).getD (k-1) 0=(AP a).getD (k-1) 0:=Db Z
   have eb:(Ay b).getD (k-1) 0=(AP b).getD (k-1) 0:=Db Z
   refine Bl O (Bl O (Ag (v:=(pP p (k-1))) O (AL (j:=k-1) O O underlying255 sizeOf92 O Z jX) ?_))
   have hx1:(Ay a).getD (k-1) 0<4294967296:=W32.getD (CO a) (k-1)
   refine Ag O (Be (v:=(vK .u32 ((Ay a).getD (k-1) 0))) O (λw' hw=>CA.at0 (hw.oldCA jX (FT hp)) (BJ (xs:=Ay a) (j:=(k-1)) Z)) isAgg92) (Bl O (Bl O (Ag (v:=(pP q (k-1))) O (AL (j:=k-1) O O underlying255 sizeOf92 O Z jX) ?_)))
   have hx2:(Ay b).getD (k-1) 0<4294967296:=W32.getD (CO b) (k-1)
   refine Ag O (Be (v:=(vK .u32 ((Ay b).getD (k-1) 0))) O (λw' hw=>CA.at0 (hw.oldCA jX (FT hq)) (BJ (xs:=Ay b) (j:=(k-1)) Z)) isAgg92) (Ag O (Bf (c:=(decide (((Ay a).getD (k-1) 0)≠((Ay b).getD (k-1) 0)))) O O (Q8 (a:=(Ay a).getD (k-1) 0) (b:=(Ay b).getD (k-1) 0))) (zT (zF (sL [0,1,5,32] O) (zC ?_))))
   refine zO O (λhc2=>?_) (λhc2=>?_)
   ·replace hc2:=xR hc2
    have hcw:=TL Z hk0 hk hd Z
    refine zf (zf (CE (Dm 9) sr (Bl O (Bl O (Ag (v:=(pP p (k-1))) O (AL (j:=k-1) O O underlying255 sizeOf92 O Z jX) ?_)))))
    have hx3:(Ay a).getD (k-1) 0<4294967296:=W32.getD (CO a) (k-1)
    refine Ag O (Be (v:=(vK .u32 ((Ay a).getD (k-1) 0))) O (λw' hw=>CA.at0 (hw.oldCA jX (FT hp)) (BJ (xs:=Ay a) (j:=(k-1)) Z)) isAgg92) (Bl O (Bl O (Ag (v:=(pP q (k-1))) O (AL (j:=k-1) O O underlying255 sizeOf92 O Z jX) ?_)))
    have hx4:(Ay b).getD (k-1) 0<4294967296:=W32.getD (CO b) (k-1)
    refine Ag O (Be (v:=(vK .u32 ((Ay b).getD (k-1) 0))) O (λw' hw=>CA.at0 (hw.oldCA jX (FT hq)) (BJ (xs:=Ay b) (j:=(k-1)) Z)) isAgg92) (Ag O (AW (c:=(decide (((Ay a).getD (k-1) 0)<((Ay b).getD (k-1) 0)))) O O (B_ (a:=(Ay a).getD (k-1) 0) (b:=(Ay b).getD (k-1) 0))) (zT (zF (sL [0,1,5,41] O) (zC ?_))))
    refine zO O (λhc3=>?_) (λhc3=>?_)
    ·replace hc3:=xR hc3
     rw [if_pos Z] at hcw
     exact q4 (asg' O (oNl' (zC (zH (zI (zU (zI (zr (zU (zI (ret_one O (rd_tmp (v:=(vI (-1:Int))) O) (λw hw=>⟨by rw [hcw],hw.out⟩))))))))))))
    ·replace hc3:=xQ hc3
     rw [if_neg Z] at hcw
     exact zJ (q2 (asg' O (oNl' (zC (zH (zU (zI (zr (zU (zI (ret_one O (rd_tmp (v:=(vI 1)) O) (λw hw=>⟨by rw [hcw],hw.out⟩))))))))))))
   ·replace hc2:=xQ hc2
    exact zJ (zP (zC (zQ (AJ O (st' (Bc (c:=(((k-1:Nat):Int)-1)) O O (BZ Z Z)) O (asg' O (oNl' (zF (sL [0,1,5] O) (zm (k-1) (⟨Z,TS (by unfold nw at hc0;omega) Z hk hd Z⟩) Z (sF O) sr)))))))))
  ·replace hc1:=xQ hc1
   have hk0:k=0:=by omega
   subst hk0
   have hz:=Vg hd
   exact zY (zR (zh (zV (q2 (asg' O (oNl' (zC (zH (ret_one O (rd_tmp (v:=(vI 0)) O) (λw hw=>⟨by rw [hz],hw.out⟩))))))))))
end
section
set_option maxRecDepth 100000
theorem Uq (a b:Nat) (ha:nw a<=1099511627776) (hb:nw b<=1099511627776) (w:World)  :Calls prog 242 #[(aG (AT a)),(aG (AT b))] w (AX w (vI (DO a b))):=by
 refine AS (args:=[(aG (AT a)),(aG (AT b))]) func242 O O (leB O) (zM (sL [0,1] O) (q4 (BG (cs:=AT a) O λb1=>BG (cs:=AT b) O λb2=>asg' O (q6 (sL [2,3,4] O) (q4 (st' (v:=(pP b1 1)) (AA O underlying71 O sizeOf9 O) O (A_ 1 (Value.string (Bs a)) UV O (st' (BY (c:=(decide (a<18446744073709551616))) O O Cd) O (AJ O ?_)))))))))
 refine zg (FM:=[(2,(pP b1 0)),(3,(pP b2 0)),(4,(vI 0)),(5,(pP b1 1)),(6,(Value.string (Bs a))),(7,(qa (decide (a<18446744073709551616)))),(8,(qa (decide (a<18446744073709551616)))),(12,(qa ((decide (a<18446744073709551616))&&(decide (b<18446744073709551616)))))]) (LM:=[AU b2 71 (AT b),AU b1 71 (AT a)]) 4 ?_ ?_
 ·rcases xO (decide (a<18446744073709551616)) with hg1|hg1
  ·refine zK (k:=8) (u:=qa true) O (by rw [hg1]) ?_
   have hg1':=xR hg1
   exact Au (v:=(pP b2 1)) O (AA O underlying71 O sizeOf9 O) (Au (v:=(Value.string (Bs b))) O (AE (i:=0) (v:=(Value.string (Bs b))) O O UV.a O) (Au (v:=(qa (decide (b<18446744073709551616)))) O (BY (c:=(decide (b<18446744073709551616))) O O Cd) (st' (v:=(qa (decide (b<18446744073709551616)))) (ex_pick_true O O) O (oNl' (zS Bi (xP _))))))
  ·refine zK (k:=8) (u:=qa false) O (by rw [hg1]) ?_
   have hg1':=xQ hg1
   exact Aw O (Aw O (Aw O (st' (v:=(qa false)) (AI O O) O (oNl' (zS Bi (xP _))))))
 refine oNl' (zF (sL [2,3,4,12] O) (zC ?_))
 refine yy (tg True) (tg [(2,(pP b1 0)),(3,(pP b2 0))]) (tg [AU b2 71 (AT b),AU b1 71 (AT a)]) ?_ ?_
 ·refine zO O (λhc0=>?_) (λhc0=>?_)
  ·simp only [jK] at hc0
   refine zf (zN (q4 (st' (v:=(pP b1 0)) (AA O underlying71 O sizeOf69 O) O (A_ 1 (vK .u64 (B7 a)) Gz O (zK (k:=15) (u:=(vK .u64 a)) O (by rw [Bm hc0.1]) (st' (v:=(pP b2 0)) (AA O underlying71 O sizeOf69 O) O (A_ 0 (vK .u64 (B7 b)) Gz O (zK (k:=17) (u:=(vK .u64 b)) O (by rw [Bm hc0.2]) (st' (AW (c:=(decide (a<b))) O O (B_ (a:=a) (b:=b))) O (asg' O (oNl' ?_)))))))))))
   refine zF (sL [2,3,4,13] O) (zC ?_)
   refine zO O (λhc1=>?_) (λhc1=>?_)
   ·replace hc1:=xR hc1
    have hz:DO a b = -1:=if_pos hc1
    exact q4 (asg' O (oNl' (zC (zH (zU (zI (yZ (zI (ret_one O (rd_tmp (v:=(vI (-1:Int))) O) (λw hw=>⟨by rw [hz],hw.out⟩))))))))))
   ·replace hc1:=xQ hc1
    refine q4 (st' (v:=(pP b1 0)) (AA O underlying71 O sizeOf69 O) O (A_ 1 (vK .u64 (B7 a)) Gz O (zK (k:=21) (u:=(vK .u64 a)) O (by rw [Bm hc0.1]) (st' (v:=(pP b2 0)) (AA O underlying71 O sizeOf69 O) O (A_ 0 (vK .u64 (B7 b)) Gz O (zK (k:=23) (u:=(vK .u64 b)) O (by rw [Bm hc0.2]) (st' (B2 (c:=(decide (b<a))) O O (B_ (a:=b) (b:=a))) O (asg' O (oNl' (zF (sL [2,3,4,19] O) (zC ?_)))))))))))
    refine zO O (λhc2=>?_) (λhc2=>?_)
    ·replace hc2:=xR hc2
     have hz:DO a b=1:=by unfold DO;rw [if_neg Z,if_neg Z]
     exact q4 (asg' O (oNl' (zC (zH (zU (zI (yZ (zI (ret_one O (rd_tmp (v:=(vI 1)) O) (λw hw=>⟨by rw [hz],hw.out⟩))))))))))
    ·replace hc2:=xQ hc2
     have hz:DO a b=0:=Nj.2 Z
     exact zJ (zP (q2 (asg' O (oNl' (zC (zH (yZ (zI (ret_one O (rd_tmp (v:=(vI 0)) O) (λw hw=>⟨by rw [hz],hw.out⟩))))))))))
  ·simp only [jK] at hc0
   exact zJ (yP  (trivial) (sF O) sr)
 ·intro hJ
  refine q1 (CE [(0,true),(2,true),(1,false),(3,false),(4,false),(5,true)] sr (C3 1 B3 O (C3 0 B3 O (zL O (yH (V:=λb3=>(qz (jk b3) (nw a) ((Ay a).length))) (T:=92) (cs:=Aq (Ay a)) (AM O) (Ak (args:=[(aG (AT a))]) O O call187) (λw hw=>DH a Z w) O (leB O) λb3=>zG (sl sr) (zL O (yH (V:=λb4=>(qz (jk b4) (nw b) ((Ay b).length))) (T:=92) (cs:=Aq (Ay b)) (AM O) (Ak (args:=[(aG (AT b))]) O O call187) (λw hw=>DH b Z w) O (leB O) λb4=>zG (sl (sl sr)) (zL O (Bx call271 (λw hw=>az a b _ _ _ _ Z Z w (hw.get (i:=1) O) (hw.get (i:=0) O)) O ?_)))))))))
  exact zG (sl (sl sr)) (pS' O (zT (zF (sL [2,3,4] O) (zC (zH (ret_one O (rd_tmp (v:=(vI (DO a b))) O) (λw hw=>⟨rfl,hw.out⟩)))))))
theorem Un (a b:Nat) (ha:nw a<=1099511627776) (hb:nw b<=1099511627776) (w:World)  :Calls prog 194 #[(aG (AT a)),(aG (AT b))] w (AX w (aG (AT (a+b)))):=by
 have hla:=CK a
 have hlb:=CK b
 refine AS (args:=[(aG (AT a)),(aG (AT b))]) func194 O O (leB O) (zM (sL [0,1] O) (q4 (BG (cs:=AT a) O λb1=>BG (cs:=AT b) O λb2=>al Gl O λb3=>q6 (sL [2,3,4] O) (q4 (st' (v:=(pP b1 1)) (AA O underlying71 O sizeOf9 O) O (A_ 2 (Value.string (Bs a)) UV O (st' (BY (c:=(decide (a<18446744073709551616))) O O Cd) O (AJ O ?_))))))))
 refine zg (FM:=[(2,(pP b1 0)),(3,(pP b2 0)),(4,(pP b3 0)),(13,(pP b1 1)),(14,(Value.string (Bs a))),(15,(qa (decide (a<18446744073709551616)))),(16,(qa (decide (a<18446744073709551616)))),(20,(qa ((decide (a<18446744073709551616))&&(decide (b<18446744073709551616)))))]) (LM:=[AU b3 71 (AT 0),AU b2 71 (AT b),AU b1 71 (AT a)]) 4 ?_ ?_
 ·rcases xO (decide (a<18446744073709551616)) with hg1|hg1
  ·refine zK (k:=16) (u:=qa true) O (by rw [hg1]) ?_
   have hg1':=xR hg1
   exact Au (v:=(pP b2 1)) O (AA O underlying71 O sizeOf9 O) (Au (v:=(Value.string (Bs b))) O (AE (i:=1) (v:=(Value.string (Bs b))) O O UV.a O) (Au (v:=(qa (decide (b<18446744073709551616)))) O (BY (c:=(decide (b<18446744073709551616))) O O Cd) (st' (v:=(qa (decide (b<18446744073709551616)))) (ex_pick_true O O) O (oNl' (zS Bi (xP _))))))
  ·refine zK (k:=16) (u:=qa false) O (by rw [hg1]) ?_
   have hg1':=xQ hg1
   exact Aw O (Aw O (Aw O (st' (v:=(qa false)) (AI O O) O (oNl' (zS Bi (xP _))))))
 refine oNl' (zF (sL [2,3,4,20] O) (zC ?_))
 refine yy (tg True) (tg [(2,(pP b1 0)),(3,(pP b2 0)),(4,(pP b3 0))]) (tg [AU b3 71 (AT 0),AU b2 71 (AT b),AU b1 71 (AT a)]) ?_ ?_
 ·refine zO O (λhc0=>?_) (λhc0=>?_)
  ·simp only [jK] at hc0
   refine q4 (st' (v:=(pP b1 0)) (AA O underlying71 O sizeOf69 O) O (A_ 2 (vK .u64 (B7 a)) Gz O (zK (k:=23) (u:=(vK .u64 a)) O (by rw [Bm hc0.1]) (st' (v:=(pP b2 0)) (AA O underlying71 O sizeOf69 O) O (A_ 1 (vK .u64 (B7 b)) Gz O (zK (k:=25) (u:=(vK .u64 b)) O (by rw [Bm hc0.2]) (st' (v:=(Value.tuple #[(vK .u64 ((a+b+0)%18446744073709551616)),(vK .u64 ((a+b+0)/18446744073709551616))])) (TT (args:=[(vK .u64 a),(vK .u64 b),(Value.int .u64 (0:Int))]) O O (λw=>UM func239 jV jV jV jV a b 0 Z w)) O (AJ O (st' (AK (v:=(vK .u64 ((a+b+0)%18446744073709551616))) O O) O (st' (AK (v:=(vK .u64 ((a+b+0)/18446744073709551616))) O O) O (asg' O ?_)))))))))))
   refine asg' O (q3 (sL [2,3,4,5,6] O) (AJ O (st' (A9 (c:=(decide (((a+b+0)/18446744073709551616)=0))) O O (MA (a:=(a+b+0)/18446744073709551616) (b:=0))) O (oNl' (zF (sL [2,3,4,5,30] O) (zC ?_))))))
   refine zO O (λhc1=>?_) (λhc1=>?_)
   ·replace hc1:=xR hc1
    exact q4 (AJ O (st' (v:=(aG ([(vK .u64 ((a+b+0)%18446744073709551616)),(Value.string (Bs 0))]))) (AO (zs:=AT 0) (vs:=[(vK .u64 ((a+b+0)%18446744073709551616)),(Value.string (Bs 0))]) (pv:=[(0,(vK .u64 ((a+b+0)%18446744073709551616)))]) (places:=[(0,1),(1,1)]) zeroValue71 underlying71 (λw=>by simp [sizeOf9,sizeOf69]) O O) O (zK (k:=32) (u:=(aG (AT (a+b)))) O (by rw [D9 Z,show (a+b+0)%18446744073709551616=a+b by omega];rfl) (Aj O sizeOf71 O (oNl' (zF (sL [2,3,4] O) (zC (zH (yZ (zI (ret_one O (Ah (i:=0) (cs:=AT (a+b)) O O isAgg71 sizeOf71 O) (λw hw=>⟨rfl,hw.out⟩))))))))))))
   ·replace hc1:=xQ hc1
    exact zJ (yP  (trivial) (sF O) sr)
  ·simp only [jK] at hc0
   exact zJ (yP  (trivial) (sF O) sr)
 ·intro hJ
  refine q1 (CE [(0,true),(2,true),(1,false),(3,false),(4,true),(5,true)] sr (C3 2 B3 O (C3 1 B3 O (zL O (yH (V:=λb4=>(qz (jk b4) (nw a) ((Ay a).length))) (T:=92) (cs:=Aq (Ay a)) (AM O) (Ak (args:=[(aG (AT a))]) O O call187) (λw hw=>DH a Z w) O (leB O) λb4=>zG (sl sr) (zL O (yH (V:=λb5=>(qz (jk b5) (nw b) ((Ay b).length))) (T:=92) (cs:=Aq (Ay b)) (AM O) (Ak (args:=[(aG (AT b))]) O O call187) (λw hw=>DH b Z w) O (leB O) λb5=>zG (sl (sl sr)) (pS' O (pS' O ?_)))))))))
  refine zT (zF (sL [2,3,4,7,8] O) (q1 (q4 (AJ O (st' (v:=(vN (nw a))) (AD O underlying255) O (AJ O (st' (v:=(vN (nw b))) (AD O underlying255) O (st' (AW (c:=(decide ((nw a)<(nw b)))) O O (B_ (a:=nw a) (b:=nw b))) O (oNl' (zF (sL [2,3,4,7,8,41] O) (zC ?_)))))))))))
  refine zO O (λhc2=>?_) (λhc2=>?_)
  ·replace hc2:=xR hc2
   refine zQ (AJ O (AJ O (asg' O (asg' O (q3 (sL [2,3,4,7,8] O) (AJ O (st' (v:=(vN (nw b))) (AD O underlying255) O (st' (AV (c:=(((nw b)+1:Nat):Int)) O O (AY (a:=nw b) (b:=1) Z)) O (zn (V:=λb6=>(qz (jk b6) ((nw b)+1) ((nw b)+1))) (T:=92) (cs:=Aq (List.replicate ((nw b)+1) 0)) (AM O) (Da (m:=(nw b)+1) (c:=(nw b)+1) O O Z Z) O (leB O) λb6=>asg' O (q3 (sL [2,3,4,7,8,9] O) ?_))))))))))
   refine AJ O (AJ O (xA (i:=0) (j:=1) (ns:=Aq (AP b)) (cs':=Aq (AP b++(List.replicate (nw b+1) 0).drop (AP b).length)) (L':=[AU b6 92 (Aq (AP b++(List.replicate (nw b+1) 0).drop (AP b).length)),AU b5 92 (Aq (Ay b)),AU b4 92 (Aq (Ay a)),AU b3 71 (AT 0),AU b2 71 (AT b),AU b1 71 (AT a)]) O (AM O) O O O O (by rw [NR,Im]) (BW _) (P5 _) Z (by rw [BW];simp;try omega) (P6 _ _) O (leB O) (q3 (sL [2,3,4,7,8,9] O) (asg' O (oNl' (q1 (q4 (AJ O (st' (v:=(vN ((nw b)+1))) (AD O underlying255) O (AJ O (oNl' ?_)))))))))))
   refine zF (sL [2,3,4,7,8,9,10,52,53] O) (zC (zN ?_))
   refine yW (tg λ(i:Nat) (os:List Nat) (c:Nat)=>i<=nw b+1/\os.length=nw b+1/\W32 os/\c<=1/\val os+c*4294967296^i=b+val ((AP a).take i)) (tg λ(i:Nat) (os:List Nat) (c:Nat)=>[(4,(pP b3 0)),(8,(qz (jk b4) (nw a) ((Ay a).length))),(9,(qz (jk b6) ((nw b)+1) ((nw b)+1))),(52,(vN ((nw b)+1))),(53,(vN i)),(10,(vK .u32 c))]) (tg λ(i:Nat) (os:List Nat) (c:Nat)=>[AU b6 92 (Aq os),AU b5 92 (Aq (Ay b)),AU b4 92 (Aq (Ay a)),AU b3 71 (AT 0),AU b2 71 (AT b),AU b1 71 (AT a)]) (tg λ(i:Nat) (os:List Nat) (c:Nat)=>nw b+1-i) 0 (AP b++(List.replicate (nw b+1) 0).drop (AP b).length) 0 (⟨xu _,(GG b 1).1,(GG b 1).2.1,Z,by rw [(GG b 1).2.2];simp [val]⟩) (sF O) sr (λi os c hJ=>?_)
   obtain ⟨hi,hl,hw32,hcc,hv⟩:=hJ
   refine q4 (st' (AW (c:=(decide (i<((nw b)+1)))) O O (B_ (a:=i) (b:=(nw b)+1))) O (oNl' (q1 ?_)))
   refine zO O (λhc3=>?_) (λhc3=>?_)
   ·replace hc3:=xR hc3
    refine zJ (q1 (zN (q4 (AJ O (asg' O (q3 (sL [4,8,9,52,53,10,11] O) (asg' O (oNl' (q1 (q4 (AJ O ?_)))))))))))
    refine AJ O (st' (v:=(vN (nw a))) (AD O underlying255) O (st' (AW (c:=(decide (i<(nw a)))) O O (B_ (a:=i) (b:=nw a))) O (oNl' (zF (sL [4,8,9,52,53,10,11,12,59] O) (zC ?_)))))
    refine yy (tg True) (tg [(4,(pP b3 0)),(8,(qz (jk b4) (nw a) ((Ay a).length))),(9,(qz (jk b6) ((nw b)+1) ((nw b)+1))),(52,(vN ((nw b)+1))),(53,(vN i)),(10,(vK .u32 c)),(11,(vN i)),(12,(vK .u32 ((AP a).getD i 0)))]) (tg [AU b6 92 (Aq os),AU b5 92 (Aq (Ay b)),AU b4 92 (Aq (Ay a)),AU b3 71 (AT 0),AU b2 71 (AT b),AU b1 71 (AT a)]) ?_ ?_
    ·refine zO O (λhc4=>?_) (λhc4=>?_)
     ·replace hc4:=xR hc4
      refine zQ (AJ O (AJ O (st' (v:=(pP b4 i)) (AL (j:=i) O O underlying255 sizeOf92 O Z jX) O ?_)))
      have hx1:(Ay a).getD i 0<4294967296:=W32.getD (CO a) i
      exact st' (AE (i:=2) (v:=(vK .u32 ((Ay a).getD i 0))) O O isAgg92 (BJ (xs:=Ay a) (j:=i) Z)) O (zK (k:=63) (u:=(vK .u32 ((AP a).getD i 0))) O (by rw [Db hc4]) (asg' O (oNl' (zF (sL [4,8,9,52,53,10,11,12] O) (yP  (trivial) (sF O) sr)))))
     ·replace hc4:=xQ hc4
      exact zJ (yj (k:=12) (u:=Value.int .u32 (((AP a).getD i 0:Nat):Int)) O (by rw [E8 hc4];rfl) (yP  (trivial) (sF O) sr))
    ·intro hJ
     refine zC (zQ (AJ O (AJ O (AJ O (AJ O (st' (v:=(pP b6 i)) (AL (j:=i) O O underlying255 sizeOf92 O Z jX) O ?_))))))
     have hx2:os.getD i 0<4294967296:=W32.getD hw32 i
     refine st' (AE (i:=0) (v:=(vK .u32 (os.getD i 0))) O O isAgg92 (BJ (xs:=os) (j:=i) Z)) O (AJ O (AJ O ?_))
     have hya:=(Bz a).getD i
     have hyb:=(Bz b).getD i
     refine ck' call240 (Ki (os.getD i 0) ((AP a).getD i 0) c Z Z Z) O (AJ O (st' (AK (v:=(vK .u32 (((os.getD i 0)+((AP a).getD i 0)+c)%4294967296))) O O) O (st' (AK (v:=(vK .u32 (((os.getD i 0)+((AP a).getD i 0)+c)/4294967296))) O O) O (st' (v:=(pP b6 i)) (AL (j:=i) O O underlying255 sizeOf92 O Z jX) O (z8 (i:=0) (off:=i) (vs:=[(vK .u32 (((os.getD i 0)+((AP a).getD i 0)+c)%4294967296))]) (cs':=Aq (os.set i (((os.getD i 0)+((AP a).getD i 0)+c)%4294967296))) (L':=[AU b6 92 (Aq (os.set i (((os.getD i 0)+((AP a).getD i 0)+c)%4294967296))),AU b5 92 (Aq (Ay b)),AU b4 92 (Aq (Ay a)),AU b3 71 (AT 0),AU b2 71 (AT b),AU b1 71 (AT a)]) (AM O) O O O O O sizeOf92 O (C2 (BW _) Z) (CR Z) O (asg' O (oNl' (zF (sL [4,8,9,52,53,10,11,12] O) (zP (zC (zQ ?_)))))))))))
     exact st' (AV (c:=((i+1:Nat):Int)) O O (AY (a:=i) (b:=1) Z)) O (AJ O (oNl' (zF (sL [4,8,9,52,53,10,11,12] O) (yN (i+1) (os.set i ((os.getD i 0+(AP a).getD i 0+c)%4294967296)) ((os.getD i 0+(AP a).getD i 0+c)/4294967296) (⟨Z,by rw [List.length_set];exact hl,W32.set hw32 Z i,Z,Oi hl hc3 hv⟩) Z (sF O) sr))))
   ·replace hc3:=xQ hc3
    refine zY (zR (yF (zV (q2 (AJ O (Bx call206 (λw hw=>Jo _ ((nw b)+1) ((nw b)+1) os hw32 (by first|omega|(rw [rowN_length];omega)|simp|(simp;omega)) (by first|omega|simp|(simp;omega)) (by first|omega|simp|(simp;omega)) w (hw.get (i:=0) O)) O (zK (k:=79) (u:=(aG (AT (a+b)))) O (by rw [List.take_of_length_le (show os.length<=nw b+1 by omega),Oh (X:=b) (Y:=a) (c:=c) (i:=i) hl hw32 Z (Xj Z) (by rw [hv,Dh Z]),Nat.add_comm]) (Gt O sizeOf71 O (oNl' (zF (sL [4,8,9,52,53,10] O) (zC ?_)))))))))))
    exact zH (ret_one O (Ah (i:=3) (cs:=AT (a+b)) O O isAgg71 sizeOf71 O) (λw hw=>⟨rfl,hw.out⟩))
  ·replace hc2:=xQ hc2
   refine zJ (q2 (AJ O (st' (v:=(vN (nw a))) (AD O underlying255) O (st' (AV (c:=(((nw a)+1:Nat):Int)) O O (AY (a:=nw a) (b:=1) Z)) O (zn (V:=λb6=>(qz (jk b6) ((nw a)+1) ((nw a)+1))) (T:=92) (cs:=Aq (List.replicate ((nw a)+1) 0)) (AM O) (Da (m:=(nw a)+1) (c:=(nw a)+1) O O Z Z) O (leB O) λb6=>asg' O (q3 (sL [2,3,4,7,8,9] O) (AJ O (AJ O (xA (i:=0) (j:=2) (ns:=Aq (AP a)) (cs':=Aq (AP a++(List.replicate (nw a+1) 0).drop (AP a).length)) (L':=[AU b6 92 (Aq (AP a++(List.replicate (nw a+1) 0).drop (AP a).length)),AU b5 92 (Aq (Ay b)),AU b4 92 (Aq (Ay a)),AU b3 71 (AT 0),AU b2 71 (AT b),AU b1 71 (AT a)]) O (AM O) O O O O (by rw [NR,Im]) (BW _) (P5 _) Z (by rw [BW];simp;try omega) (P6 _ _) O (leB O) (q3 (sL [2,3,4,7,8,9] O) ?_))))))))))
   refine asg' O (oNl' (q1 (q4 (AJ O (st' (v:=(vN ((nw a)+1))) (AD O underlying255) O (AJ O (oNl' (zF (sL [2,3,4,7,8,9,10,52,53] O) (zC (zN ?_))))))))))
   refine yW (tg λ(i:Nat) (os:List Nat) (c:Nat)=>i<=nw a+1/\os.length=nw a+1/\W32 os/\c<=1/\val os+c*4294967296^i=a+val ((AP b).take i)) (tg λ(i:Nat) (os:List Nat) (c:Nat)=>[(4,(pP b3 0)),(8,(qz (jk b5) (nw b) ((Ay b).length))),(9,(qz (jk b6) ((nw a)+1) ((nw a)+1))),(52,(vN ((nw a)+1))),(53,(vN i)),(10,(vK .u32 c))]) (tg λ(i:Nat) (os:List Nat) (c:Nat)=>[AU b6 92 (Aq os),AU b5 92 (Aq (Ay b)),AU b4 92 (Aq (Ay a)),AU b3 71 (AT 0),AU b2 71 (AT b),AU b1 71 (AT a)]) (tg λ(i:Nat) (os:List Nat) (c:Nat)=>nw a+1-i) 0 (AP a++(List.replicate (nw a+1) 0).drop (AP a).length) 0 (⟨xu _,(GG a 1).1,(GG a 1).2.1,Z,by rw [(GG a 1).2.2];simp [val]⟩) (sF O) sr (λi os c hJ=>?_)
   obtain ⟨hi,hl,hw32,hcc,hv⟩:=hJ
   refine q4 (st' (AW (c:=(decide (i<((nw a)+1)))) O O (B_ (a:=i) (b:=(nw a)+1))) O (oNl' (q1 ?_)))
   refine zO O (λhc3=>?_) (λhc3=>?_)
   ·replace hc3:=xR hc3
    refine zJ (q1 (zN (q4 (AJ O (asg' O (q3 (sL [4,8,9,52,53,10,11] O) (asg' O (oNl' (q1 (q4 (AJ O ?_)))))))))))
    refine AJ O (st' (v:=(vN (nw b))) (AD O underlying255) O (st' (AW (c:=(decide (i<(nw b)))) O O (B_ (a:=i) (b:=nw b))) O (oNl' (zF (sL [4,8,9,52,53,10,11,12,59] O) (zC ?_)))))
    refine yy (tg True) (tg [(4,(pP b3 0)),(8,(qz (jk b5) (nw b) ((Ay b).length))),(9,(qz (jk b6) ((nw a)+1) ((nw a)+1))),(52,(vN ((nw a)+1))),(53,(vN i)),(10,(vK .u32 c)),(11,(vN i)),(12,(vK .u32 ((AP b).getD i 0)))]) (tg [AU b6 92 (Aq os),AU b5 92 (Aq (Ay b)),AU b4 92 (Aq (Ay a)),AU b3 71 (AT 0),AU b2 71 (AT b),AU b1 71 (AT a)]) ?_ ?_
    ·refine zO O (λhc4=>?_) (λhc4=>?_)
     ·replace hc4:=xR hc4
      refine zQ (AJ O (AJ O (st' (v:=(pP b5 i)) (AL (j:=i) O O underlying255 sizeOf92 O Z jX) O ?_)))
      have hx3:(Ay b).getD i 0<4294967296:=W32.getD (CO b) i
      exact st' (AE (i:=1) (v:=(vK .u32 ((Ay b).getD i 0))) O O isAgg92 (BJ (xs:=Ay b) (j:=i) Z)) O (zK (k:=63) (u:=(vK .u32 ((AP b).getD i 0))) O (by rw [Db hc4]) (asg' O (oNl' (zF (sL [4,8,9,52,53,10,11,12] O) (yP  (trivial) (sF O) sr)))))
     ·replace hc4:=xQ hc4
      exact zJ (yj (k:=12) (u:=Value.int .u32 (((AP b).getD i 0:Nat):Int)) O (by rw [E8 hc4];rfl) (yP  (trivial) (sF O) sr))
    ·intro hJ
     refine zC (zQ (AJ O (AJ O (AJ O (AJ O (st' (v:=(pP b6 i)) (AL (j:=i) O O underlying255 sizeOf92 O Z jX) O ?_))))))
     have hx4:os.getD i 0<4294967296:=W32.getD hw32 i
     refine st' (AE (i:=0) (v:=(vK .u32 (os.getD i 0))) O O isAgg92 (BJ (xs:=os) (j:=i) Z)) O (AJ O (AJ O ?_))
     have hya:=(Bz a).getD i
     have hyb:=(Bz b).getD i
     refine ck' call240 (Ki (os.getD i 0) ((AP b).getD i 0) c Z Z Z) O (AJ O (st' (AK (v:=(vK .u32 (((os.getD i 0)+((AP b).getD i 0)+c)%4294967296))) O O) O (st' (AK (v:=(vK .u32 (((os.getD i 0)+((AP b).getD i 0)+c)/4294967296))) O O) O (st' (v:=(pP b6 i)) (AL (j:=i) O O underlying255 sizeOf92 O Z jX) O (z8 (i:=0) (off:=i) (vs:=[(vK .u32 (((os.getD i 0)+((AP b).getD i 0)+c)%4294967296))]) (cs':=Aq (os.set i (((os.getD i 0)+((AP b).getD i 0)+c)%4294967296))) (L':=[AU b6 92 (Aq (os.set i (((os.getD i 0)+((AP b).getD i 0)+c)%4294967296))),AU b5 92 (Aq (Ay b)),AU b4 92 (Aq (Ay a)),AU b3 71 (AT 0),AU b2 71 (AT b),AU b1 71 (AT a)]) (AM O) O O O O O sizeOf92 O (C2 (BW _) Z) (CR Z) O (asg' O (oNl' (zF (sL [4,8,9,52,53,10,11,12] O) (zP (zC (zQ ?_)))))))))))
     exact st' (AV (c:=((i+1:Nat):Int)) O O (AY (a:=i) (b:=1) Z)) O (AJ O (oNl' (zF (sL [4,8,9,52,53,10,11,12] O) (yN (i+1) (os.set i ((os.getD i 0+(AP b).getD i 0+c)%4294967296)) ((os.getD i 0+(AP b).getD i 0+c)/4294967296) (⟨Z,by rw [List.length_set];exact hl,W32.set hw32 Z i,Z,Oi hl hc3 hv⟩) Z (sF O) sr))))
   ·replace hc3:=xQ hc3
    refine zY (zR (yF (zV (q2 (AJ O (Bx call206 (λw hw=>Jo _ ((nw a)+1) ((nw a)+1) os hw32 (by first|omega|(rw [rowN_length];omega)|simp|(simp;omega)) (by first|omega|simp|(simp;omega)) (by first|omega|simp|(simp;omega)) w (hw.get (i:=0) O)) O (zK (k:=79) (u:=(aG (AT (a+b)))) O (by rw [List.take_of_length_le (show os.length<=nw a+1 by omega),Oh (X:=a) (Y:=b) (c:=c) (i:=i) hl hw32 Z (Xj Z) (by rw [hv,Dh Z])]) (Gt O sizeOf71 O (oNl' (zF (sL [4,8,9,52,53,10] O) (zC ?_)))))))))))
    exact zH (ret_one O (Ah (i:=3) (cs:=AT (a+b)) O O isAgg71 sizeOf71 O) (λw hw=>⟨rfl,hw.out⟩))
end
end Go.Proofs.YtpolhpjiahbidaaGreatDoor
