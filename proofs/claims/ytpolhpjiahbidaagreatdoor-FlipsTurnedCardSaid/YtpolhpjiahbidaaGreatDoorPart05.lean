import Derived.Test.YtpolhpjiahbidaaGreatDoorPart04
namespace Go.Proofs.YtpolhpjiahbidaaGreatDoor
open Go Go.RowKit Go.Proofs.Tryz
open Go.Value renaming slice→qz,bool→qa
set_option linter.unusedVariables false
set_option linter.unusedSimpArgs false
section
set_option maxRecDepth 100000
theorem KH (n:Nat) (hn:n<18446744073709551616) (w:World)  :Calls prog 172 #[(vK .u64 n)] w (Ad w (aG (AU n))):=by
 refine AY (args:=[(vK .u64 n)]) func172 O O (BA O) (zM (sL [0] O) (q4 (al Ga O λb1=>oNl' (q2 (AL O (AD (v:=(aG ([(vK .u64 n),(Value.string (Bo 0))]))) (AP (zs:=AU 0) (vs:=[(vK .u64 n),(Value.string (Bo 0))]) (pv:=[(0,(vK .u64 n))]) (places:=[(0,1),(1,1)]) zeroValue71 underlying71 (λw=>by simp [sizeOf9,sizeOf69]) O O) O (zI (k:=4) (u:=(aG (AU n))) O (by rw [Dz hn];rfl) (Ag O sizeOf71 O (oNl' (zB (sL [2] O) ?_))))))))))
 exact zA (zF (ret_one O (Ao (i:=0) (cs:=AU n) O O isAgg71 sizeOf71 O) (λw hw=>⟨rfl,hw.out⟩)))
theorem L5  :Instr.fill ([(0,1),(1,1)].toArray[·]?) (AU 0).toArray []=some (AU 0).toArray:=by kernel_rfl
theorem Re (a:Nat) (w:World)  :Calls prog 241 #[(aG (AU a))] w (Ad w (qa (decide (a=0)))):=by
 refine AY (args:=[(aG (AU a))]) func241 O O (BA O) (zM (sL [0] O) (q4 (BV (cs:=AU a) O λb1=>asg' O (q3 (sL [1,2] O) (Al 0 CE O (AD (v:=(aG (AU 0))) (AP (zs:=AU 0) (vs:=AU 0) (pv:=[]) (places:=[(0,1),(1,1)]) zeroValue71 underlying71 (λw=>by simp [sizeOf9,sizeOf69]) O (L5 )) O (AD (B0 (c:=(decide (a=0))) O O eqGuardType71 (HM 9998 a 0)) O (asg' O (oNl' (zB (sL [2] O) ?_))))))))))
 exact zA (zF (ret_one O (rd_tmp (v:=(qa (decide (a=0)))) O) (λw hw=>⟨rfl,hw.out⟩)))
theorem DZ (v:Nat) (hv:nw v<=1099511627776) (w:World)  :Calls prog 187 #[(aG (AU v))] w (λe w'=>∃b,e=.returned (.slice (jk b) (nw v) (Aw v).length)/\Fr w.heap.size w w'/\w.heap.size<=b/\w'.heap[b]?=some (.cells (Ak (Aw v)).toArray 92 (0,0))):=by
 refine AY (args:=[(aG (AU v))]) func187 O O (BA O) (zM (sL [0] O) (q4 (BV (cs:=AU v) O λb1=>asg' O (q6 (sL [1,2] O) (q4 (AD (v:=(pP b1 1)) (AA O underlying71 O sizeOf9 O) O (BF 0 (Value.string (Bo v)) TE O (AD (Bj (c:=(decide (v<18446744073709551616))) O O Cm) O (oNl' (zB (sL [1,2,8] O) ?_))))))))))
 refine zA ?_
 refine zL O (λhc0=>?_) (λhc0=>?_)
 ·replace hc0:=xT hc0
  refine q4 (AD (v:=(pP b1 0)) (AA O underlying71 O sizeOf69 O) O (BF 0 (vK .u64 (CC v)) G_ O (zI (k:=10) (u:=(vK .u64 v)) O (by rw [Bh hc0]) (AD (Au (c:=((v%4294967296:Nat):Int)) O underlying69 underlying92 Ef) O (AD (v:=(pP b1 0)) (AA O underlying71 O sizeOf69 O) O (BF 0 (vK .u64 (CC v)) G_ O (zI (k:=13) (u:=(vK .u64 v)) O (by rw [Bh hc0]) (AD (C3 (s:=32) (c:=((v/4294967296:Nat):Int)) O O O jY (GY (a:=v) (s:=32))) O (AD (Au (c:=((v/4294967296:Nat):Int)) O underlying69 underlying92 (Cg Z)) O (zZ (V:=λb2=>(qz (jk b2) 2 2)) (T:=92) (cs:=Ak ([v%4294967296,v/4294967296])) (AI O) (Az (cs:=Ak ([v%4294967296,v/4294967296])) (pv:=[(0,(vK .u32 (v%4294967296))),(1,(vK .u32 (v/4294967296)))]) underlying255 sizeOf92 zeroValue92 jY jY O jV) O (BA O) λb2=>DH call189 (λw hw=>UH _ 2 2 ([v%4294967296,v/4294967296]) (W32.cons Z (W32.cons Z (W32.nil))) jX jX (by simp;try omega) w (hw.get (i:=0) O)) O ?_))))))))))
  refine asg' O (oNl' (zB (sL [1,2] O) (zA (zF (zK ?_)))))
  have hpad:Aw v=[v%4294967296,v/4294967296]:=by simp [Aw,hc0]
  have hnw:nw v=D9 [v%4294967296,v/4294967296] 2:=by rw [<-QE (YE hc0) (m:=2) jX,<-Ra v,hpad];simp [val];congr 1;omega
  have hret:∀b:Nat,(Ending.returned (qz (jk b) (D9 ([v%4294967296,v/4294967296]) 2) 2))=.returned (qz (jk b) (nw v) (Aw v).length):=λb=>by rw [hnw,hpad];rfl
  replace hret:=hret b2
  have hcells:(some (Obj.cells (Ak ([v%4294967296,v/4294967296])).toArray 92 (0,0)))=some (Obj.cells (Ak (Aw v)).toArray 92 (0,0)):=by rw [hpad]
  exact ret_one O (rd_tmp (v:=(qz (jk b2) (D9 ([v%4294967296,v/4294967296]) 2) 2)) O) (λw hw=>⟨b2,hret,hw.out,hw.fresh (i:=0) O,(hw.get (i:=0) O).trans hcells⟩)
 ·replace hc0:=xS hc0
  refine zC (q2 (AD (v:=(pP b1 1)) (AA O underlying71 O sizeOf9 O) O (BF 0 (Value.string (Bo v)) TE O (AD (v:=(vN ((Bo v).size))) (L4 O underlying9) O (zI (k:=20) (u:=(vN (4*nw v))) O (by rw [FB hc0,Le,CH];rfl) (AD (Gy (c:=(((4*nw v)/4:Nat):Int)) O O Z (Ox (a:=4*nw v) (b:=4) Z)) O (zI (k:=21) (u:=(vN (nw v))) O (by rw [Nat.mul_div_cancel_left _ Z]) (zZ (V:=λb2=>(qz (jk b2) (nw v) (nw v))) (T:=92) (cs:=Ak (List.replicate (nw v) 0)) (AI O) (DR (m:=nw v) (c:=nw v) O O Z Z) O (BA O) λb2=>asg' O (q6 (sL [1,2,3] O) (q4 ?_))))))))))
  refine AL O (AD (v:=(vN (nw v))) (AE O underlying255) O (AL O (oNl' (zB (sL [1,2,3,24,25] O) (zA (zJ ?_))))))
  refine yG (tg λ(i:Nat) (os:List Nat)=>i<=nw v/\os.length=nw v/\os.take i=(AJ v).take i/\∀j,i<=j->os.getD j 0=0) (tg λ(i:Nat) (os:List Nat)=>[(1,(pP b1 0)),(2,jj),(3,(qz (jk b2) (nw v) (nw v))),(24,(vN (nw v))),(25,(vN i))]) (tg λ(i:Nat) (os:List Nat)=>[AX b2 92 (Ak os),AX b1 71 (AU v)]) (tg λ(i:Nat) (os:List Nat)=>nw v-i) 0 (List.replicate (nw v) 0) (⟨xJ _,by simp,by simp,λj _=>by simp [List.getD_eq_getElem?_getD,List.getElem?_replicate];split<;>rfl⟩) (sF O) sr (λi os hJ=>?_)
  obtain ⟨hin,hl,ht,h0⟩:=hJ
  refine q4 (AD (Aa (c:=(decide (i<(nw v)))) O O (DB (a:=i) (b:=nw v))) O (oNl' (q1 ?_)))
  refine zL O (λhc1=>?_) (λhc1=>?_)
  ·replace hc1:=xT hc1
   refine zC (q1 (zJ (q4 (AL O (asg' O (q3 (sL [1,2,3,24,25,4] O) (AL O (oNl' (zA (zJ ?_))))))))))
   refine yG (tg λ(k:Nat) (xs:List Nat)=>k<=4/\xs=os.set i ((AJ v).getD i 0%256^k)) (tg λ(k:Nat) (xs:List Nat)=>[(1,(pP b1 0)),(2,jj),(3,(qz (jk b2) (nw v) (nw v))),(24,(vN (nw v))),(25,(vN i)),(4,(vN i)),(28,(vN k))]) (tg λ(k:Nat) (xs:List Nat)=>[AX b2 92 (Ak xs),AX b1 71 (AU v)]) (tg λ(k:Nat) (xs:List Nat)=>4-k) 0 os (⟨Z,by rw [Nat.pow_zero,Nat.mod_one];exact Vy (h0 i (Nat.le_refl _))⟩) (sF O) sr (λk xs hJ=>?_)
   obtain ⟨hk,hxs⟩:=hJ
   refine q4 (AD (Aa (c:=(decide (k<4))) O O (DB (a:=k) (b:=4))) O (oNl' (q1 ?_)))
   refine zL O (λhc2=>?_) (λhc2=>?_)
   ·replace hc2:=xT hc2
    refine zC (q1 (zJ (q4 (AL O (asg' O (oNl' (zB (sL [1,2,3,24,25,4,28,5] O) (zA (DC [(0,true),(1,true),(2,true),(4,true),(5,true),(6,true),(7,true),(8,true),(9,true),(10,true),(11,true),(12,true),(13,true),(14,true),(3,false),(15,true),(16,true),(17,false)] (sl sr) ?_)))))))))
    have hi:i<nw v:=hc1
    have hxi:xs.getD i 0=(AJ v).getD i 0%256^k:=by rw [hxs];simp [hl,hi]
    have hxl:xs.length=nw v:=by rw [hxs];simp [hl]
    have hby:(AJ v).getD i 0/256^k%256<256:=Nat.mod_lt _ Z
    have hget:(Bo v)[4*i+k]?=some (UInt8.ofNat ((AJ v).getD i 0/256^k%256)):=by rw [FB hc0,Sx (by rw [CH];show 4*i+k<4*nw v;omega),GH _ _ _ hi hc2]
    have hw32:xs.getD i 0<4294967296:=by rw [hxi];exact Nat.lt_of_le_of_lt (Nat.mod_le _ _) ((Bt v).getD i)
    refine By O (By O (Am (v:=(pP b2 i)) O (AG (j:=i) O O underlying255 sizeOf92 O Z jX) (Am (v:=(pP b1 1)) O (AA O underlying71 O sizeOf9 O) (BU 0 (Value.string (Bo v)) TE O (By O (Am O (Bx (c:=((4*i:Nat):Int)) O O (DP (a:=4) (b:=i) Z)) (By O (Am O (AT (c:=(((4*i)+k:Nat):Int)) O O (AV (a:=4*i) (b:=k) Z)) (Am (v:=(vK .u8 ((AJ v).getD i 0/256^k%256))) O (IP (j:=4*i+k) (m:=(AJ v).getD i 0/256^k%256) O O underlying9 hget hby) (Am O (Au (c:=(((AJ v).getD i 0/256^k%256:Nat):Int)) O underlying5 underlying92 (Cg Z)) (By O ?_)))))))))))
    refine Am O (Bx (c:=((8*k:Nat):Int)) O O (DP (a:=8) (b:=k) Z)) (Am (v:=(vK .u32 ((AJ v).getD i 0/256^k%256*2^(8*k)))) O (Gz (s:=8*k) O O O (show 8*k<=32 by omega) (V0 (Qm hc2))) (zN O (AD (AH (i:=0) (v:=(vK .u32 (xs.getD i 0))) O O isAgg92 (BH (xs:=xs) (j:=i) Z)) O (zD (sl sr) (Am O (JY (c:=(((AJ v).getD i 0%256^(k+1):Nat):Int)) O O (KJ hw32 (Qm hc2) (Ru hxi))) (Am (v:=(pP b2 i)) O (AG (j:=i) O O underlying255 sizeOf92 O Z jX) (zN O (zp (i:=0) (off:=i) (vs:=[(vK .u32 ((AJ v).getD i 0%256^(k+1)))]) (cs':=Ak (xs.set i ((AJ v).getD i 0%256^(k+1)))) (L':=[AX b2 92 (Ak (xs.set i ((AJ v).getD i 0%256^(k+1)))),AX b1 71 (AU v)]) (AI O) O O O O O sizeOf92 O (Ct (BS _) Z) (CN Z) O (zD (sl sr) (zQ (zB (sL [1,2,3,24,25,4,28] O) ?_)))))))))))
    exact zG (zA (zH (AD (AT (c:=((k+1:Nat):Int)) O O (AV (a:=k) (b:=1) Z)) O (AL O (oNl' (zB (sL [1,2,3,24,25,4,28] O) (zn (k+1) (xs.set i ((AJ v).getD i 0%256^(k+1))) (⟨Z,by rw [hxs,List.set_set]⟩) Z (sF O) sr)))))))
   ·replace hc2:=xS hc2
    refine zU (zO (zm (zP (zG (zA (zH (AD (AT (c:=((i+1:Nat):Int)) O O (AV (a:=i) (b:=1) Z)) O (AL O (oNl' (zB (sL [1,2,3,24,25,4,28] O) ?_))))))))))
    have hst:=Qa (ws:=AJ v) (xs:=xs) hl rfl hc1 ht h0 (by rw [hxs,show k=4 by omega];congr 1;exact Nat.mod_eq_of_lt ((Bt v).getD i))
    exact zn (i+1) xs (⟨Z,hst.1,hst.2.1,hst.2.2⟩) Z (sF O) sr
  ·replace hc1:=xS hc1
   refine zU (zO (zm (zP (q2 (AL O (asg' O (oNl' (zB (sL [1,2,3,24,25] O) (zA (zF ?_))))))))))
   have hpad:Aw v=AJ v:=by simp [Aw,hc0]
   have hos:os=AJ v:=Vt hl rfl hc1 ht
   have hret:∀b:Nat,(Ending.returned (qz (jk b) (nw v) (nw v)))=.returned (qz (jk b) (nw v) (Aw v).length):=λb=>by rw [hpad];rfl
   replace hret:=hret b2
   have hcells:(some (Obj.cells (Ak os).toArray 92 (0,0)))=some (Obj.cells (Ak (Aw v)).toArray 92 (0,0)):=by rw [hpad,hos]
   exact ret_one O (rd_tmp (v:=(qz (jk b2) (nw v) (nw v))) O) (λw hw=>⟨b2,hret,hw.out,hw.fresh (i:=0) O,(hw.get (i:=0) O).trans hcells⟩)
end
section
set_option maxRecDepth 100000
theorem Jf (b m c:Nat) (bs:List Nat) (hbs:W32 bs) (hm:m<=bs.length) (hc:m<=c) (hL:c<4398046511104) (w:World) (hb:w.heap[b]?=some (.cells (Ak bs).toArray 92 (0,0))):Calls prog 206 #[(qz (jk b) m c)] w (Ad w (aG (AU (val (bs.take m))))):=by
 have hle:=J9 bs m
 have hval:=Lt bs m
 have hwd:=JQ hbs hm
 have hnw:=QE hbs hm
 generalize hK:D9 bs m=K at *
 refine AY (args:=[(qz (jk b) m c)]) func206 O O (BA O) (zM (sL [0] O) (q4 (al Ga O λb1=>oNl' (q2 (AL O (DH call189 (λw hw=>UH _ m c bs hbs Z Z Z w (hw.old jX hb)) O (zI (k:=10) (u:=(qz (jk b) K c)) O (by rw [hK]) (asg' O (q6 (sL [0,2] O) (q4 ?_))))))))))
 refine AL O (AD (v:=(vN K)) (AE O underlying255) O (AD (I2 (c:=(decide (K<=2))) O O (Xx (a:=K) (b:=2))) O (oNl' (zB (sL [0,2,13] O) (zA ?_)))))
 refine zL O (λhc0=>?_) (λhc0=>?_)
 ·replace hc0:=xT hc0
  refine q4 (asg' O (oNl' (q1 (q4 (AL O (AD (v:=(vN K)) (AE O underlying255) O (AL O (oNl' (zA (zJ ?_))))))))))
  refine yG (tg λ(i:Nat) (n:Nat)=>i<=K/\n=val (bs.take i)) (tg λ(i:Nat) (n:Nat)=>[(0,(qz (jk b) K c)),(2,(pP b1 0)),(14,(qz (jk b) K c)),(15,(vN K)),(16,(vN i)),(3,(vK .u64 n))]) (tg λ(i:Nat) (n:Nat)=>[AX b1 71 (AU 0)]) (tg λ(i:Nat) (n:Nat)=>K-i) 0 0 (⟨xJ _,by simp [val]⟩) (sF O) sr (λi n hJ=>?_)
  obtain ⟨hi,hn⟩:=hJ
  refine q4 (AD (Aa (c:=(decide (i<K))) O O (DB (a:=i) (b:=K))) O (oNl' (q1 ?_)))
  refine zL O (λhc1=>?_) (λhc1=>?_)
  ·replace hc1:=xT hc1
   refine zC (q1 (zJ (q4 (AL O (AD (v:=(pP b i)) (AG (j:=i) O O underlying255 sizeOf92 O Z jX) O ?_)))))
   have hx1:bs.getD i 0<4294967296:=W32.getD hbs i
   refine AD (BZ (v:=(vK .u32 (bs.getD i 0))) O (λw' hw=>CA.at0 (hw.oldCA jX (El hb)) (BH (xs:=bs) (j:=i) Z)) isAgg92) O (asg' O (asg' O (oNl' (zB (sL [0,2,14,15,16,3,4,5] O) (zA (zH (AL O (AL O (AD (Au (c:=((bs.getD i 0:Nat):Int)) O underlying92 underlying69 (BY Z)) O (AL O ?_))))))))))
   have hiK:i<K:=hc1
   have hi2:i<2:=by omega
   have hn2:n<4294967296^i:=by rw [hn];exact Nat.lt_of_lt_of_le (HE (hbs.take i)) (Nat.pow_le_pow_right Z (by simp;omega))
   have hsh:=Vz (i:=i) (hbs.getD i) hi2
   have hn3:n<18446744073709551616:=St hn2 hi2
   refine AD (Bx (c:=((32*i:Nat):Int)) O O (DP (a:=32) (b:=i) Z)) O (AD (v:=(vK .u64 (bs.getD i 0*2^(32*i)))) (Gz (s:=32*i) O O O (show 32*i<=64 by omega) (G7 hsh)) O (AD (JY (c:=((n+bs.getD i 0*2^(32*i):Nat):Int)) O O (KK hn3 hsh (H6 (by rw [<-Y7];exact hn2)))) O (asg' O (oNl' (zB (sL [0,2,14,15,16,3] O) (zG (zA (zH (AD (AT (c:=((i+1:Nat):Int)) O O (AV (a:=i) (b:=1) Z)) O (AL O (oNl' ?_)))))))))))
   exact zB (sL [0,2,14,15,16,3] O) (zn (i+1) (n+bs.getD i 0*2^(32*i)) (⟨Z,by rw [Bb,<-hn,Y7]⟩) Z (sF O) sr)
  ·replace hc1:=xS hc1
   refine zU (zO (zm (zP (q2 (AL O ?_)))))
   have hnn:n=val (bs.take K):=by rw [hn,show i=K by omega]
   have hv2:val (bs.take m)<18446744073709551616:=by rw [<-hval];exact Nat.lt_of_lt_of_le (HE (hbs.take K)) (by rw [List.length_take];exact xM (Nat.pow_le_pow_right (n:=4294967296) Z (show min K bs.length<=2 by omega)) jY)
   exact AD (v:=(aG ([(vK .u64 n),(Value.string (Bo 0))]))) (AP (zs:=AU 0) (vs:=[(vK .u64 n),(Value.string (Bo 0))]) (pv:=[(0,(vK .u64 n))]) (places:=[(0,1),(1,1)]) zeroValue71 underlying71 (λw=>by simp [sizeOf9,sizeOf69]) O O) O (zI (k:=30) (u:=(aG (AU (val (bs.take m))))) O (by rw [Dz hv2,<-hval,<-hnn];rfl) (Ag O sizeOf71 O (oNl' (zB (sL [0,2,14,15,16,3] O) (zA (zF (zK (ret_one O (Ao (i:=0) (cs:=AU (val (bs.take m))) O O isAgg71 sizeOf71 O) (λw hw=>⟨rfl,hw.out⟩)))))))))
 ·replace hc0:=xS hc0
  refine zC (q2 (AL O (AD (v:=(vN K)) (AE O underlying255) O (AD (Bx (c:=((4*K:Nat):Int)) O O (DP (a:=4) (b:=K) Z)) O (zZ (V:=λb2=>(qz (jk b2) 0 (4*K))) (T:=5) (cs:=J5 (List.replicate (4*K) 0)) (AI O) (QJ (m:=0) (c:=4*K) O O Z Z) O (BA O) λb2=>asg' O (q6 (sL [0,2,6] O) (q4 (AL O (AD (v:=(vN K)) (AE O underlying255) O (AL O ?_))))))))))
  refine oNl' (zA (zJ ?_))
  refine yG (tg λ(i:Nat) (bz:List Nat)=>i<=K/\bz=bytesN (bs.take i)++List.replicate (4*(K-i)) 0) (tg λ(i:Nat) (bz:List Nat)=>[(2,(pP b1 0)),(35,(qz (jk b) K c)),(36,(vN K)),(37,(vN i)),(6,(qz (jk b2) (4*i) (4*K)))]) (tg λ(i:Nat) (bz:List Nat)=>[AX b2 5 (J5 bz),AX b1 71 (AU 0)]) (tg λ(i:Nat) (bz:List Nat)=>K-i) 0 (List.replicate (4*K) 0) (⟨xJ _,by simp [bytesN]⟩) (sF O) sr (λi bz hJ=>?_)
  obtain ⟨hi,hz⟩:=hJ
  refine q4 (AD (Aa (c:=(decide (i<K))) O O (DB (a:=i) (b:=K))) O (oNl' (q1 ?_)))
  refine zL O (λhc2=>?_) (λhc2=>?_)
  ·replace hc2:=xT hc2
   refine zC (q1 (zJ (q4 (AD (v:=(pP b i)) (AG (j:=i) O O underlying255 sizeOf92 O Z jX) O ?_))))
   have hx2:bs.getD i 0<4294967296:=W32.getD hbs i
   refine AD (BZ (v:=(vK .u32 (bs.getD i 0))) O (λw' hw=>CA.at0 (hw.oldCA jX (El hb)) (BH (xs:=bs) (j:=i) Z)) isAgg92) O (asg' O (oNl' (zB (sL [2,35,36,37,6,8] O) (zA (zH (AL O (AL O (AD (Au (c:=(((bs.getD i 0)%256:Nat):Int)) O underlying92 underlying5 KG) O (AL O (AD (C3 (s:=8) (c:=(((bs.getD i 0)/256:Nat):Int)) O O O jY (GY (a:=bs.getD i 0) (s:=8))) O (AD (Au (c:=((((bs.getD i 0)/256)%256:Nat):Int)) O underlying92 underlying5 KG) O ?_)))))))))))
   refine AL O (AD (C3 (s:=16) (c:=(((bs.getD i 0)/65536:Nat):Int)) O O O jY (GY (a:=bs.getD i 0) (s:=16))) O (AD (Au (c:=((((bs.getD i 0)/65536)%256:Nat):Int)) O underlying92 underlying5 KG) O (AL O (AD (C3 (s:=24) (c:=(((bs.getD i 0)/16777216:Nat):Int)) O O O jY (GY (a:=bs.getD i 0) (s:=24))) O (AD (Au (c:=((((bs.getD i 0)/16777216)%256:Nat):Int)) O underlying92 underlying5 KG) O (zZ (V:=λb3=>(qz (jk b3) 4 4)) (T:=5) (cs:=J5 ([(bs.getD i 0)%256,((bs.getD i 0)/256)%256,((bs.getD i 0)/65536)%256,((bs.getD i 0)/16777216)%256])) (AI O) (Az (cs:=J5 ([(bs.getD i 0)%256,((bs.getD i 0)/256)%256,((bs.getD i 0)/65536)%256,((bs.getD i 0)/16777216)%256])) (pv:=[(0,(vK .u8 ((bs.getD i 0)%256))),(1,(vK .u8 (((bs.getD i 0)/256)%256))),(2,(vK .u8 (((bs.getD i 0)/65536)%256))),(3,(vK .u8 (((bs.getD i 0)/16777216)%256)))]) underlying86 sizeOf5 zeroValue5 jY jY O jV) O (BA O) λb3=>?_))))))
   obtain ⟨bz2,hz2,hlay⟩:∃bz2,bz2=bytesN (bs.take (i+1))++List.replicate (4*(K-(i+1))) 0/\Gd (J5 bz) (4*i) (J5 ([(bs.getD i 0)%256,((bs.getD i 0)/256)%256,((bs.getD i 0)/65536)%256,((bs.getD i 0)/16777216)%256]))=J5 bz2:=⟨_,rfl,by rw [hz];exact Pe hc2 Z⟩
   exact AR.append_u8 (i:=1) (j:=0) (m:=4*i) (c:=4*K) (k:=4) (cs':=J5 bz2) (L':=[AX b3 5 (J5 ([(bs.getD i 0)%256,((bs.getD i 0)/256)%256,((bs.getD i 0)/65536)%256,((bs.getD i 0)/16777216)%256])),AX b2 5 (J5 bz2),AX b1 71 (AU 0)]) O (AI O) O O O O O O Z (by rw [IC,hz];simp [CH];omega) hlay O (BA O) (asg' O (oNl' (zB (sL [2,35,36,37,6] O) (zG (zA (zH (AD (AT (c:=((i+1:Nat):Int)) O O (AV (a:=i) (b:=1) Z)) O (AL O (oNl' (zB (sL [2,35,36,37,6] O) (zn (i+1) bz2 (⟨Z,hz2⟩) Z (sF O) (sl sr))))))))))))
  ·replace hc2:=xS hc2
   refine zU (zO (zm (zP (q2 (AL O ?_)))))
   have hbl:bz.length=4*i:=by rw [hz,xL,CH,List.length_take,List.length_replicate];omega
   have htk:(J5 bz).take (4*i)=J5 bz:=List.take_of_length_le (by rw [IC];omega)
   refine AD (v:=(Value.string (DU bz))) (Jn (i:=0) (m:=4*i) (ns:=bz) O O htk hbl) O ?_
   have hv3:¬val (bs.take m)<18446744073709551616:=λh=>by have:=LS h;omega
   have hbz:bz=bytesN (bs.take K):=by rw [hz,show i=K by omega];simp
   exact AD (v:=(aG ([(vK .u64 (CC 0)),(Value.string (DU bz))]))) (AP (zs:=AU 0) (vs:=[(vK .u64 (CC 0)),(Value.string (DU bz))]) (pv:=[(1,(Value.string (DU bz)))]) (places:=[(0,1),(1,1)]) zeroValue71 underlying71 (λw=>by simp [sizeOf9,sizeOf69]) O O) O (zI (k:=58) (u:=(aG (AU (val (bs.take m))))) O (by rw [VM hv3,hwd,<-hbz];rfl) (Cd O sizeOf71 O (oNl' (zB (sL [2,35,36,37,6] O) (zA (zF (ret_one O (Ao (i:=1) (cs:=AU (val (bs.take m))) O O isAgg71 sizeOf71 O) (λw hw=>⟨rfl,hw.out⟩))))))))
end
section
def Fw (a b:Nat):Int:=if a<b then -1 else if a=b then 0 else 1
theorem J8 {a b:Nat}:Fw a b<0↔a<b:=by
  unfold Fw;split
  · omega
  · split<;>omega
theorem Qt {a b:Nat}:Fw a b=0↔a=b:=by
  unfold Fw;split
  · omega
  · split<;>omega
theorem XG {a b:Nat} (h:nw a≠nw b):((nw a:Int)-(nw b:Int)).sign=Fw a b:=by
  unfold Fw
  by_cases h1:nw a<nw b
  · have h2:a<b:=by
      rcases Nat.lt_or_ge a b with h2|h2
      · exact h2
      · have:=Dv h2;omega
    rw [if_pos h2,Int.sign_eq_neg_one_of_neg Z]
  · have h2:b<a:=by
      rcases Nat.lt_or_ge b a with h2|h2
      · exact h2
      · have:=Dv h2;omega
    rw [if_neg Z,if_neg Z,Int.sign_eq_one_of_pos Z]
theorem T9 {xs ys:List Nat} {k:Nat} (hx:W32 xs) (hl:xs.length=ys.length) (h0:0<k) (hk:k<=xs.length) (hd:xs.drop k=ys.drop k) (h:xs.getD (k-1) 0<ys.getD (k-1) 0):val xs<val ys:=by
  have e1:=E9 xs k hk
  have e2:=E9 ys k Z
  have s1:=Bb xs (k-1)
  have s2:=Bb ys (k-1)
  rw [show k-1+1=k by omega] at s1 s2
  have h1:val (xs.take (k-1))<4294967296^(k-1):=Nat.lt_of_lt_of_le (HE (hx.take (k-1))) (Nat.pow_le_pow_right Z (by simp;omega))
  have h2:(xs.getD (k-1) 0+1)*4294967296^(k-1)<=ys.getD (k-1) 0*4294967296^(k-1):=Nat.mul_le_mul_right _ h
  rw [Nat.add_mul] at h2
  rw [hd] at e1
  omega
theorem R6 {xs ys:List Nat} {k:Nat} (hl:xs.length=ys.length) (h0:0<k) (hk:k<=xs.length) (hd:xs.drop k=ys.drop k) (h:xs.getD (k-1) 0=ys.getD (k-1) 0):xs.drop (k-1)=ys.drop (k-1):=by
  have h1:k-1<xs.length:=by omega
  have h2:k-1<ys.length:=by omega
  rw [List.drop_eq_getElem_cons h1,List.drop_eq_getElem_cons h2,show k-1+1=k by omega,hd]
  simp [h1,h2] at h
  rw [h]
theorem R0 {a b k:Nat} (hl:nw a=nw b) (h0:0<k) (hk:k<=nw a) (hd:(AJ a).drop k=(AJ b).drop k) (hne:(AJ a).getD (k-1) 0≠(AJ b).getD (k-1) 0) :
    Fw a b=if (AJ a).getD (k-1) 0<(AJ b).getD (k-1) 0 then -1 else 1:=by
  unfold Fw
  split
  · rename_i h
    rw [if_pos]
    rcases Nat.lt_or_ge ((AJ a).getD (k-1) 0) ((AJ b).getD (k-1) 0) with h1|h1
    · exact h1
    · have:=T9 (Bt b) hl.symm h0 (by unfold nw at *;omega) hd.symm (show (AJ b).getD (k-1) 0<(AJ a).getD (k-1) 0 by omega)
      rw [Ch,Ch] at this;omega
  · rename_i h
    have h2:¬(AJ a).getD (k-1) 0<(AJ b).getD (k-1) 0:=λh1=>by
      have:=T9 (Bt a) hl h0 hk hd h1
      rw [Ch,Ch] at this;omega
    rw [if_neg h2,if_neg]
    intro e;subst e;exact hne rfl
theorem T_ {a b:Nat} (hd:(AJ a).drop 0=(AJ b).drop 0):Fw a b=0:=by
  rw [Qt]
  rw [List.drop_zero,List.drop_zero] at hd
  rw [<-Ch a,<-Ch b,hd]
theorem Dt {v i:Nat} (h:i<nw v):(Aw v).getD i 0=(AJ v).getD i 0:=by
  rw [<-If v]
  simp [List.getD_eq_getElem?_getD,List.getElem?_take,h]
theorem Ep {v i:Nat} (h:¬i<nw v):(AJ v).getD i 0=0:=by
  unfold nw at h;simp [List.getD_eq_getElem?_getD,Nat.not_lt.1 h]
theorem DY {v i:Nat} (h:nw v<=i):val ((AJ v).take i)=v:=by
  rw [List.take_of_length_le h,Ch]
theorem YF (v:Nat):(Aw v).length<=nw v+2:=by
  unfold Aw;split
  · simp
  · unfold nw;omega
theorem Ip (v:Nat):val ((Aw v).take (nw v))=v:=by rw [If,Ch]
theorem OF {os ys:List Nat} {X i n c:Nat} (hl:os.length=n) (hi:i<n) (hv:val os+c*4294967296^i=X+val (ys.take i)) :
    val (os.set i ((os.getD i 0+ys.getD i 0+c)%4294967296))+(os.getD i 0+ys.getD i 0+c)/4294967296*4294967296^(i+1)=X+val (ys.take (i+1)):=by
  have e:=Fh (xs:=os) (i:=i) Z ((os.getD i 0+ys.getD i 0+c)%4294967296)
  have t:=Bb ys i
  have hm:=Nat.div_add_mod (os.getD i 0+ys.getD i 0+c) 4294967296
  rw [Nat.pow_succ]
  generalize os.getD i 0=o at *
  generalize ys.getD i 0=y at *
  generalize (o+y+c)/4294967296=q at *
  generalize (o+y+c)%4294967296=r at *
  generalize 4294967296^i=p at *
  have hm2:(4294967296*q+r)*p=(o+y+c)*p:=by rw [hm]
  grind
theorem OE {os:List Nat} {X Y n c i:Nat} (hl:os.length=n) (hw:W32 os) (hi:n<=i) (hX:X+Y<4294967296^n) (hv:val os+c*4294967296^i=X+Y):val os=X+Y:=by
  have h1:4294967296^n<=4294967296^i:=Nat.pow_le_pow_right Z hi
  rcases Nat.eq_zero_or_pos c with h|h
  · subst h;omega
  · have:1*4294967296^i<=c*4294967296^i:=Nat.mul_le_mul_right _ h
    omega
theorem WA {os ys:List Nat} {X i n c:Nat} (hl:os.length=n) (hi:i<n) (hw:W32 os) (hy:W32 ys) (hc:c<=1) (hv:val os+val (ys.take i)=X+c*4294967296^i) :
    val (os.set i ((os.getD i 0+(4294967296-ys.getD i 0)+(4294967296-c))%4294967296))+val (ys.take (i+1))=X+JV (os.getD i 0) (ys.getD i 0+c)*4294967296^(i+1):=by
  have e:=Fh (xs:=os) (i:=i) Z ((os.getD i 0+(4294967296-ys.getD i 0)+(4294967296-c))%4294967296)
  have t:=Bb ys i
  have ho:=hw.getD i
  have hy':=hy.getD i
  rw [Nat.pow_succ]
  have hm:(os.getD i 0+(4294967296-ys.getD i 0)+(4294967296-c))%4294967296+ys.getD i 0+c=os.getD i 0+JV (os.getD i 0) (ys.getD i 0+c)*4294967296:=by
    unfold JV;split<;>omega
  generalize (os.getD i 0+(4294967296-ys.getD i 0)+(4294967296-c))%4294967296=r at *
  generalize JV (os.getD i 0) (ys.getD i 0+c)=q at *
  generalize os.getD i 0=o at *
  generalize ys.getD i 0=y at *
  generalize 4294967296^i=p at *
  have hm2:(r+y+c)*p=(o+q*4294967296)*p:=by rw [hm]
  grind
theorem V_ {os:List Nat} {X Y n c i:Nat} (hl:os.length=n) (hw:W32 os) (hi:i=n) (hX:Y<=X) (hv:val os+Y=X+c*4294967296^i) (hX2:X<4294967296^n):val os=X-Y:=by
  have h1:=HE hw
  rw [hl] at h1
  subst hi
  rcases Nat.eq_zero_or_pos c with h|h
  · subst h;omega
  · have:1*4294967296^i<=c*4294967296^i:=Nat.mul_le_mul_right _ h
    omega
theorem Pd (x y:Nat):JV x y<=1:=by unfold JV;split<;>omega
theorem VI {os ys:List Nat} {S W i k n c:Nat} (hl:os.length=n) (hi:i+k<n) (hv:val os+c*4294967296^(i+k)=S+W*val (ys.take k)*4294967296^i) :
    val (os.set (i+k) ((c+(W*ys.getD k 0+os.getD (i+k) 0))%4294967296))+(c+(W*ys.getD k 0+os.getD (i+k) 0))/4294967296*4294967296^(i+(k+1))=S+W*val (ys.take (k+1))*4294967296^i:=by
  have e:=Fh (xs:=os) (i:=i+k) Z ((c+(W*ys.getD k 0+os.getD (i+k) 0))%4294967296)
  have t:=Bb ys k
  have hm:=Nat.div_add_mod (c+(W*ys.getD k 0+os.getD (i+k) 0)) 4294967296
  rw [t,show i+(k+1)=i+k+1 by omega,Nat.pow_succ]
  rw [Nat.pow_add] at *
  generalize os.getD (i+k) 0=o at *
  generalize ys.getD k 0=y at *
  generalize (c+(W*y+o))/4294967296=q at *
  generalize (c+(W*y+o))%4294967296=r at *
  generalize 4294967296^i=p at *
  generalize 4294967296^k=p' at *
  generalize val (ys.take k)=vy at *
  have hm2:(4294967296*q+r)*(p*p')=(c+(W*y+o))*(p*p'):=by rw [hm]
  grind
section
variable {n:Nat} {F:List (Nat×Value)} {w0:BC} {L:List As} {v:Value} {x y:Operand} {d:Option Tmp} {t:TypeId} {p:String} {af:Array Edge} {g:Option (Nat×Bool)}
theorem yk {ops:Array Oper} {rest:List Oper} {Q:Exit->Act->World->Prop} {L':List As} {i j b b' m c k c' dd:Nat} {cs ds ns cs':List Value} {o:Oper} (ho:o=⟨some dd,.call { callee:=.builtin .copy,args:=#[x,y],argTypes:=#[255,255] },t,p,af,g⟩) (hw:Wt ops n F o)
    (hx:evF F x=some (.slice (jk b) m c)) (hy:evF F y=some (.slice (some ⟨b',0,none⟩) k c')) (hi:L[i]?=some (AX b 92 cs)) (hj:L[j]?=some (AX b' 92 ds)) (hns:ds.take k=ns) (hnl:ns.length=k) (h1:(ns.all λu=>u.oneCell')=true) (hkm:k<=m) (hfit:k<=cs.length)
    (hcs:Gd cs 0 ns=cs') (hL:L.set i (AX b 92 cs')=L') (hd:dd<n) (next:AR prog ops rest Q n ((dd,.int .i64 k)::F) w0 L'):AR prog ops (o::rest) Q n F w0 L:=λa w ha hW=>by
  subst ho;subst hcs;subst hL
  unfold wpList
  rw [if_pos (hw a ha)]
  left
  have hca:=EN (off:=0) (k:=k) (hW.get hj)
  rw [List.drop_zero,hns] at hca
  have hr:=run_copy_row (P:=prog) w 255 255 t 92 b 0 m c ⟨b',0,none⟩ k c' cs.toArray 92 ns underlying255 jV (hW.get hi) (by rw [hnl];exact (Nat.min_eq_left hkm).symm) (λq u hu=>by rw [Addr.add_lit];exact hca q u hu) (by simp;omega) (λu hu=>List.all_eq_true.1 h1 u hu)
  unfold Oper.wp
  have he:(execOp a.eval ⟨some dd,.call { callee:=.builtin .copy,args:=#[x,y],argTypes:=#[255,255] },t,p,af,g⟩).run prog w=.ok (.value (.int .i64 k)) (w.setRow b (Gd cs 0 ns).toArray):=by
    simp only [execOp,resolve,invoke,builtin,Sem.run_bind,Sem.run_pure,Result.andThen_ok,List.map_toArray,List.map_cons,List.map_nil,ha.ev hx,ha.ev hy,hr,Gd,hnl,goInt]
  rw [he,Oper.upon_value]
  have hg:=hW.get hi
  exact next _ _ (ha.put hd) (hW.turn hi O O ⟨⟨rfl,rfl,rfl,by simp,λq _ hq=>setRow_other w b q _ (λe=>hq (by simp [e]))⟩,Nat.le_refl _⟩ ⟨_,setRow_heap w b cs.toArray _ 92 _ hg,rfl⟩)
end
theorem WB {a b:Nat} (h:nw b<=nw a):a+b<4294967296^(nw a+1):=by
  have h1:=CD a
  have h2:b<4294967296^nw a:=Cy.1 h
  rw [Nat.pow_succ];omega
theorem Fx (v k:Nat):(AJ v++(List.replicate (nw v+k) 0).drop (AJ v).length).length=nw v+k/\W32 (AJ v++(List.replicate (nw v+k) 0).drop (AJ v).length)/\val (AJ v++(List.replicate (nw v+k) 0).drop (AJ v).length)=v:=by
  have e:(List.replicate (nw v+k) 0).drop (AJ v).length=List.replicate k 0:=by rw [List.drop_replicate];congr 1;unfold nw;omega
  rw [e]
  refine ⟨by simp [nw],(Bt v).append (W32.zeros k),?_⟩
  rw [Ls,Ch,EV];omega
theorem Ib {os:List Nat} {p c n:Nat} (hl:os.length=n) (hp:p<n) (h0:os.getD p 0=0):val (os.set p c)=val os+c*4294967296^p:=by
  have e:=Fh (xs:=os) (i:=p) Z c
  rw [h0] at e;omega
theorem Qc {os:List Nat} {a b i:Nat} (hv:val os=val ((AJ a).take i)*b):∀j,i+nw b<=j->os.getD j 0=0:=λj hj=>by
  refine Gc (m:=i+nw b) ?_ hj
  rw [hv,Nat.pow_add]
  refine Nat.mul_lt_mul'' (Nat.lt_of_lt_of_le (HE ((Bt a).take i)) (Nat.pow_le_pow_right Z (by simp;omega))) (CD b)
theorem F6 {os:List Nat} {p q v:Nat} (h:∀j,p<=j->os.getD j 0=0) (hq:q<p):∀j,p<=j->(os.set q v).getD j 0=0:=λj hj=>by
  rw [List.getD_eq_getElem?_getD,List.getElem?_set_ne Z,<-List.getD_eq_getElem?_getD]
  exact h j hj
theorem X6 {a b i:Nat}:val ((AJ a).take i)*b+(AJ a).getD i 0*b*4294967296^i=val ((AJ a).take (i+1))*b:=by
  rw [Bb];grind
theorem aL {x y:Nat} (hx:x<18446744073709551616) (hy:y<18446744073709551616):val [x%4294967296,x/4294967296,y%4294967296,y/4294967296]=x+y*18446744073709551616:=by
  simp only [val];omega
theorem O9 (xs:List Nat):((Ak xs).all λu=>u.oneCell')=true:=List.all_eq_true.2 (WP xs)
theorem M6 (xs:List Nat) (k:Nat):(Ak xs).take k=Ak (xs.take k):=by simp [Ak,List.map_take]
theorem O_ (xs ns:List Nat):Gd (Ak xs) 0 (Ak ns)=Ak (ns++xs.drop ns.length):=by simp [Gd,Ak,List.map_drop]
end
section
set_option maxRecDepth 100000
theorem ZQ (a b p q c c2:Nat) (ha:nw a<=1099511627776) (hb:nw b<=1099511627776) (w:World) (hp:w.heap[p]?=some (.cells (Ak (Aw a)).toArray 92 (0,0))) (hq:w.heap[q]?=some (.cells (Ak (Aw b)).toArray 92 (0,0))):Calls prog 271 #[(qz (jk p) (nw a) c),(qz (jk q) (nw b) c2)] w (Ad w (vI (Fw a b))):=by
 have hla:=CQ a
 have hlb:=CQ b
 refine AY (args:=[(qz (jk p) (nw a) c),(qz (jk q) (nw b) c2)]) func271 O O (BA O) (zM (sL [0,1] O) (q4 (asg' O (oNl' (q1 (q4 (AL O (AD (v:=(vN (nw a))) (AE O underlying255) O (AL O (AD (v:=(vN (nw b))) (AE O underlying255) O (AD (CT (c:=(decide ((nw a)≠(nw b)))) O O (aR (a:=nw a) (b:=nw b))) O ?_)))))))))))
 refine oNl' (zB (sL [0,1,4,10] O) (zA ?_))
 refine zL O (λhc0=>?_) (λhc0=>?_)
 ·replace hc0:=xT hc0
  refine q4 (AL O (AD (v:=(vN (nw a))) (AE O underlying255) O (AL O (AD (v:=(vN (nw b))) (AE O underlying255) O (AD (B3 (c:=((nw a:Int)-(nw b:Int))) O O (BJ Z Z)) O (ck' call296 (YZ _ Z Z) O (zI (k:=16) (u:=(vI (Fw a b))) O (by rw [XG hc0]) (asg' O (oNl' (zB (sL [0,1,4] O) (zA ?_)))))))))))
  exact zF (zK (ret_one O (rd_tmp (v:=(vI (Fw a b))) O) (λw hw=>⟨rfl,hw.out⟩)))
 ·replace hc0:=xS hc0
  refine zC (q1 (q4 (AL O (AD (v:=(vN (nw a))) (AE O underlying255) O (AD (B3 (c:=(((nw a:Nat):Int)-1)) O O (BJ Z Z)) O (asg' O (oNl' (zB (sL [0,1,4,5] O) (zA (zJ ?_))))))))))
  refine zw (tg λ(k:Nat)=>k<=nw a/\(AJ a).drop k=(AJ b).drop k) (tg λ(k:Nat)=>[(0,(qz (jk p) (nw a) c)),(1,(qz (jk q) (nw b) c2)),(5,(vI (((k:Nat):Int)-1)))]) (tg λ(k:Nat)=>[]) (tg λ(k:Nat)=>k) (nw a) (⟨Nat.le_refl _,by rw [List.drop_of_length_le (by exact Nat.le_refl _),List.drop_of_length_le (by unfold nw at *;omega)]⟩) (sF O) sr (λk hJ=>?_)
  obtain ⟨hk,hd⟩:=hJ
  refine zX (q4 (AL O (AD (ER (c:=(decide ((0:Int)<=(((k:Nat):Int)-1)))) O O O) O (oNl' (zB (sL [0,1,5,21] O) (zA ?_))))))
  refine zL O (λhc1=>?_) (λhc1=>?_)
  ·replace hc1:=xT hc1
   have hk0:0<k:=by omega
   refine yP (k:=5) (u:=(vN (k-1))) O (by congr 1;omega) (zC (q1 (zJ (zX (DC (Er 9) sr ?_)))))
   have ea:(Aw a).getD (k-1) 0=(AJ a).getD (k-1) 0:=Dt Z
   have eb:(Aw b).getD (k-1) 0=(AJ b).getD (k-1) 0:=Dt Z
   refine By O (By O (Am (v:=(pP p (k-1))) O (AG (j:=k-1) O O underlying255 sizeOf92 O Z jX) ?_))
   have hx1:(Aw a).getD (k-1) 0<4294967296:=W32.getD (CY a) (k-1)
   refine Am O (BZ (v:=(vK .u32 ((Aw a).getD (k-1) 0))) O (λw' hw=>CA.at0 (hw.oldCA jX (El hp)) (BH (xs:=Aw a) (j:=(k-1)) Z)) isAgg92) (By O (By O (Am (v:=(pP q (k-1))) O (AG (j:=k-1) O O underlying255 sizeOf92 O Z jX) ?_)))
   have hx2:(Aw b).getD (k-1) 0<4294967296:=W32.getD (CY b) (k-1)
   refine Am O (BZ (v:=(vK .u32 ((Aw b).getD (k-1) 0))) O (λw' hw=>CA.at0 (hw.oldCA jX (El hq)) (BH (xs:=Aw b) (j:=(k-1)) Z)) isAgg92) (Am O (CT (c:=(decide (((Aw a).getD (k-1) 0)≠((Aw b).getD (k-1) 0)))) O O (aR (a:=(Aw a).getD (k-1) 0) (b:=(Aw b).getD (k-1) 0))) (zQ (zB (sL [0,1,5,32] O) (zA ?_))))
   refine zL O (λhc2=>?_) (λhc2=>?_)
   ·replace hc2:=xT hc2
    have hcw:=R0 Z hk0 hk hd Z
    refine zX (zX (DC (Er 9) sr (By O (By O (Am (v:=(pP p (k-1))) O (AG (j:=k-1) O O underlying255 sizeOf92 O Z jX) ?_)))))
    have hx3:(Aw a).getD (k-1) 0<4294967296:=W32.getD (CY a) (k-1)
    refine Am O (BZ (v:=(vK .u32 ((Aw a).getD (k-1) 0))) O (λw' hw=>CA.at0 (hw.oldCA jX (El hp)) (BH (xs:=Aw a) (j:=(k-1)) Z)) isAgg92) (By O (By O (Am (v:=(pP q (k-1))) O (AG (j:=k-1) O O underlying255 sizeOf92 O Z jX) ?_)))
    have hx4:(Aw b).getD (k-1) 0<4294967296:=W32.getD (CY b) (k-1)
    refine Am O (BZ (v:=(vK .u32 ((Aw b).getD (k-1) 0))) O (λw' hw=>CA.at0 (hw.oldCA jX (El hq)) (BH (xs:=Aw b) (j:=(k-1)) Z)) isAgg92) (Am O (Aa (c:=(decide (((Aw a).getD (k-1) 0)<((Aw b).getD (k-1) 0)))) O O (DB (a:=(Aw a).getD (k-1) 0) (b:=(Aw b).getD (k-1) 0))) (zQ (zB (sL [0,1,5,41] O) (zA ?_))))
    refine zL O (λhc3=>?_) (λhc3=>?_)
    ·replace hc3:=xT hc3
     rw [if_pos Z] at hcw
     exact q4 (asg' O (oNl' (zA (zF (zK (zS (zK (z6 (zS (zK (ret_one O (rd_tmp (v:=(vI (-1:Int))) O) (λw hw=>⟨by rw [hcw],hw.out⟩))))))))))))
    ·replace hc3:=xS hc3
     rw [if_neg Z] at hcw
     exact zC (q2 (asg' O (oNl' (zA (zF (zS (zK (z6 (zS (zK (ret_one O (rd_tmp (v:=(vI 1)) O) (λw hw=>⟨by rw [hcw],hw.out⟩))))))))))))
   ·replace hc2:=xS hc2
    exact zC (zG (zA (zH (AL O (AD (B3 (c:=(((k-1:Nat):Int)-1)) O O (BJ Z Z)) O (asg' O (oNl' (zB (sL [0,1,5] O) (zl (k-1) (⟨Z,R6 (by unfold nw at hc0;omega) Z hk hd Z⟩) Z (sF O) sr)))))))))
  ·replace hc1:=xS hc1
   have hk0:k=0:=by omega
   subst hk0
   have hz:=T_ hd
   exact zU (zO (zW (zP (q2 (asg' O (oNl' (zA (zF (ret_one O (rd_tmp (v:=(vI 0)) O) (λw hw=>⟨by rw [hz],hw.out⟩))))))))))
end
section
set_option maxRecDepth 100000
theorem TI (a b:Nat) (ha:nw a<=1099511627776) (hb:nw b<=1099511627776) (w:World)  :Calls prog 242 #[(aG (AU a)),(aG (AU b))] w (Ad w (vI (Fw a b))):=by
 refine AY (args:=[(aG (AU a)),(aG (AU b))]) func242 O O (BA O) (zM (sL [0,1] O) (q4 (BV (cs:=AU a) O λb1=>BV (cs:=AU b) O λb2=>asg' O (q6 (sL [2,3,4] O) (q4 (AD (v:=(pP b1 1)) (AA O underlying71 O sizeOf9 O) O (BF 1 (Value.string (Bo a)) TE O (AD (Bj (c:=(decide (a<18446744073709551616))) O O Cm) O (AL O ?_)))))))))
 refine ze (FM:=[(2,(pP b1 0)),(3,(pP b2 0)),(4,(vI 0)),(5,(pP b1 1)),(6,(Value.string (Bo a))),(7,(qa (decide (a<18446744073709551616)))),(8,(qa (decide (a<18446744073709551616)))),(12,(qa ((decide (a<18446744073709551616))&&(decide (b<18446744073709551616)))))]) (LM:=[AX b2 71 (AU b),AX b1 71 (AU a)]) 4 ?_ ?_
 ·rcases xQ (decide (a<18446744073709551616)) with hg1|hg1
  ·refine zI (k:=8) (u:=qa true) O (by rw [hg1]) ?_
   have hg1':=xT hg1
   exact BM (v:=(pP b2 1)) O (AA O underlying71 O sizeOf9 O) (BM (v:=(Value.string (Bo b))) O (AH (i:=0) (v:=(Value.string (Bo b))) O O TE.a O) (BM (v:=(qa (decide (b<18446744073709551616)))) O (Bj (c:=(decide (b<18446744073709551616))) O O Cm) (AD (v:=(qa (decide (b<18446744073709551616)))) (AW O O) O (oNl' (zR Cc (xR _))))))
  ·refine zI (k:=8) (u:=qa false) O (by rw [hg1]) ?_
   have hg1':=xS hg1
   exact BO O (BO O (BO O (AD (v:=(qa false)) (AQ O O) O (oNl' (zR Cc (xR _))))))
 refine oNl' (zB (sL [2,3,4,12] O) (zA ?_))
 refine yd (tg True) (tg [(2,(pP b1 0)),(3,(pP b2 0))]) (tg [AX b2 71 (AU b),AX b1 71 (AU a)]) ?_ ?_
 ·refine zL O (λhc0=>?_) (λhc0=>?_)
  ·simp only [jK] at hc0
   refine zX (zJ (q4 (AD (v:=(pP b1 0)) (AA O underlying71 O sizeOf69 O) O (BF 1 (vK .u64 (CC a)) G_ O (zI (k:=15) (u:=(vK .u64 a)) O (by rw [Bh hc0.1]) (AD (v:=(pP b2 0)) (AA O underlying71 O sizeOf69 O) O (BF 0 (vK .u64 (CC b)) G_ O (zI (k:=17) (u:=(vK .u64 b)) O (by rw [Bh hc0.2]) (AD (Aa (c:=(decide (a<b))) O O (DB (a:=a) (b:=b))) O (asg' O (oNl' ?_)))))))))))
   refine zB (sL [2,3,4,13] O) (zA ?_)
   refine zL O (λhc1=>?_) (λhc1=>?_)
   ·replace hc1:=xT hc1
    have hz:Fw a b = -1:=if_pos hc1
    exact q4 (asg' O (oNl' (zA (zF (zS (zK (yQ (zK (ret_one O (rd_tmp (v:=(vI (-1:Int))) O) (λw hw=>⟨by rw [hz],hw.out⟩))))))))))
   ·replace hc1:=xS hc1
    refine q4 (AD (v:=(pP b1 0)) (AA O underlying71 O sizeOf69 O) O (BF 1 (vK .u64 (CC a)) G_ O (zI (k:=21) (u:=(vK .u64 a)) O (by rw [Bh hc0.1]) (AD (v:=(pP b2 0)) (AA O underlying71 O sizeOf69 O) O (BF 0 (vK .u64 (CC b)) G_ O (zI (k:=23) (u:=(vK .u64 b)) O (by rw [Bh hc0.2]) (AD (D_ (c:=(decide (b<a))) O O (DB (a:=b) (b:=a))) O (asg' O (oNl' (zB (sL [2,3,4,19] O) (zA ?_)))))))))))
    refine zL O (λhc2=>?_) (λhc2=>?_)
    ·replace hc2:=xT hc2
     have hz:Fw a b=1:=by unfold Fw;rw [if_neg Z,if_neg Z]
     exact q4 (asg' O (oNl' (zA (zF (zS (zK (yQ (zK (ret_one O (rd_tmp (v:=(vI 1)) O) (λw hw=>⟨by rw [hz],hw.out⟩))))))))))
    ·replace hc2:=xS hc2
     have hz:Fw a b=0:=Qt.2 Z
     exact zC (zG (q2 (asg' O (oNl' (zA (zF (yQ (zK (ret_one O (rd_tmp (v:=(vI 0)) O) (λw hw=>⟨by rw [hz],hw.out⟩))))))))))
  ·simp only [jK] at hc0
   exact zC (yE  (trivial) (sF O) sr)
 ·intro hJ
  refine q1 (DC [(0,true),(2,true),(1,false),(3,false),(4,false),(5,true)] sr (Ew 1 CE O (Ew 0 CE O (zN O (z8 (V:=λb3=>(qz (jk b3) (nw a) ((Aw a).length))) (T:=92) (cs:=Ak (Aw a)) (AI O) (Ar (args:=[(aG (AU a))]) O O call187) (λw hw=>DZ a Z w) O (BA O) λb3=>zD (sl sr) (zN O (z8 (V:=λb4=>(qz (jk b4) (nw b) ((Aw b).length))) (T:=92) (cs:=Ak (Aw b)) (AI O) (Ar (args:=[(aG (AU b))]) O O call187) (λw hw=>DZ b Z w) O (BA O) λb4=>zD (sl (sl sr)) (zN O (DH call271 (λw hw=>ZQ a b _ _ _ _ Z Z w (hw.get (i:=1) O) (hw.get (i:=0) O)) O ?_)))))))))
  exact zD (sl (sl sr)) (pS' O (zQ (zB (sL [2,3,4] O) (zA (zF (ret_one O (rd_tmp (v:=(vI (Fw a b))) O) (λw hw=>⟨rfl,hw.out⟩)))))))
theorem TF (a b:Nat) (ha:nw a<=1099511627776) (hb:nw b<=1099511627776) (w:World)  :Calls prog 194 #[(aG (AU a)),(aG (AU b))] w (Ad w (aG (AU (a+b)))):=by
 have hla:=CQ a
 have hlb:=CQ b
 refine AY (args:=[(aG (AU a)),(aG (AU b))]) func194 O O (BA O) (zM (sL [0,1] O) (q4 (BV (cs:=AU a) O λb1=>BV (cs:=AU b) O λb2=>al Ga O λb3=>q6 (sL [2,3,4] O) (q4 (AD (v:=(pP b1 1)) (AA O underlying71 O sizeOf9 O) O (BF 2 (Value.string (Bo a)) TE O (AD (Bj (c:=(decide (a<18446744073709551616))) O O Cm) O (AL O ?_))))))))
 refine ze (FM:=[(2,(pP b1 0)),(3,(pP b2 0)),(4,(pP b3 0)),(13,(pP b1 1)),(14,(Value.string (Bo a))),(15,(qa (decide (a<18446744073709551616)))),(16,(qa (decide (a<18446744073709551616)))),(20,(qa ((decide (a<18446744073709551616))&&(decide (b<18446744073709551616)))))]) (LM:=[AX b3 71 (AU 0),AX b2 71 (AU b),AX b1 71 (AU a)]) 4 ?_ ?_
 ·rcases xQ (decide (a<18446744073709551616)) with hg1|hg1
  ·refine zI (k:=16) (u:=qa true) O (by rw [hg1]) ?_
   have hg1':=xT hg1
   exact BM (v:=(pP b2 1)) O (AA O underlying71 O sizeOf9 O) (BM (v:=(Value.string (Bo b))) O (AH (i:=1) (v:=(Value.string (Bo b))) O O TE.a O) (BM (v:=(qa (decide (b<18446744073709551616)))) O (Bj (c:=(decide (b<18446744073709551616))) O O Cm) (AD (v:=(qa (decide (b<18446744073709551616)))) (AW O O) O (oNl' (zR Cc (xR _))))))
  ·refine zI (k:=16) (u:=qa false) O (by rw [hg1]) ?_
   have hg1':=xS hg1
   exact BO O (BO O (BO O (AD (v:=(qa false)) (AQ O O) O (oNl' (zR Cc (xR _))))))
 refine oNl' (zB (sL [2,3,4,20] O) (zA ?_))
 refine yd (tg True) (tg [(2,(pP b1 0)),(3,(pP b2 0)),(4,(pP b3 0))]) (tg [AX b3 71 (AU 0),AX b2 71 (AU b),AX b1 71 (AU a)]) ?_ ?_
 ·refine zL O (λhc0=>?_) (λhc0=>?_)
  ·simp only [jK] at hc0
   refine q4 (AD (v:=(pP b1 0)) (AA O underlying71 O sizeOf69 O) O (BF 2 (vK .u64 (CC a)) G_ O (zI (k:=23) (u:=(vK .u64 a)) O (by rw [Bh hc0.1]) (AD (v:=(pP b2 0)) (AA O underlying71 O sizeOf69 O) O (BF 1 (vK .u64 (CC b)) G_ O (zI (k:=25) (u:=(vK .u64 b)) O (by rw [Bh hc0.2]) (AD (v:=(Value.tuple #[(vK .u64 ((a+b+0)%18446744073709551616)),(vK .u64 ((a+b+0)/18446744073709551616))])) (R7 (args:=[(vK .u64 a),(vK .u64 b),(Value.int .u64 (0:Int))]) O O (λw=>Sm func239 jV jV jV jV a b 0 Z w)) O (AL O (AD (AK (v:=(vK .u64 ((a+b+0)%18446744073709551616))) O O) O (AD (AK (v:=(vK .u64 ((a+b+0)/18446744073709551616))) O O) O (asg' O ?_)))))))))))
   refine asg' O (q3 (sL [2,3,4,5,6] O) (AL O (AD (BL (c:=(decide (((a+b+0)/18446744073709551616)=0))) O O (N9 (a:=(a+b+0)/18446744073709551616) (b:=0))) O (oNl' (zB (sL [2,3,4,5,30] O) (zA ?_))))))
   refine zL O (λhc1=>?_) (λhc1=>?_)
   ·replace hc1:=xT hc1
    exact q4 (AL O (AD (v:=(aG ([(vK .u64 ((a+b+0)%18446744073709551616)),(Value.string (Bo 0))]))) (AP (zs:=AU 0) (vs:=[(vK .u64 ((a+b+0)%18446744073709551616)),(Value.string (Bo 0))]) (pv:=[(0,(vK .u64 ((a+b+0)%18446744073709551616)))]) (places:=[(0,1),(1,1)]) zeroValue71 underlying71 (λw=>by simp [sizeOf9,sizeOf69]) O O) O (zI (k:=32) (u:=(aG (AU (a+b)))) O (by rw [Dz Z,show (a+b+0)%18446744073709551616=a+b by omega];rfl) (Ag O sizeOf71 O (oNl' (zB (sL [2,3,4] O) (zA (zF (yQ (zK (ret_one O (Ao (i:=0) (cs:=AU (a+b)) O O isAgg71 sizeOf71 O) (λw hw=>⟨rfl,hw.out⟩))))))))))))
   ·replace hc1:=xS hc1
    exact zC (yE  (trivial) (sF O) sr)
  ·simp only [jK] at hc0
   exact zC (yE  (trivial) (sF O) sr)
 ·intro hJ
  refine q1 (DC [(0,true),(2,true),(1,false),(3,false),(4,true),(5,true)] sr (Ew 2 CE O (Ew 1 CE O (zN O (z8 (V:=λb4=>(qz (jk b4) (nw a) ((Aw a).length))) (T:=92) (cs:=Ak (Aw a)) (AI O) (Ar (args:=[(aG (AU a))]) O O call187) (λw hw=>DZ a Z w) O (BA O) λb4=>zD (sl sr) (zN O (z8 (V:=λb5=>(qz (jk b5) (nw b) ((Aw b).length))) (T:=92) (cs:=Ak (Aw b)) (AI O) (Ar (args:=[(aG (AU b))]) O O call187) (λw hw=>DZ b Z w) O (BA O) λb5=>zD (sl (sl sr)) (pS' O (pS' O ?_)))))))))
  refine zQ (zB (sL [2,3,4,7,8] O) (q1 (q4 (AL O (AD (v:=(vN (nw a))) (AE O underlying255) O (AL O (AD (v:=(vN (nw b))) (AE O underlying255) O (AD (Aa (c:=(decide ((nw a)<(nw b)))) O O (DB (a:=nw a) (b:=nw b))) O (oNl' (zB (sL [2,3,4,7,8,41] O) (zA ?_)))))))))))
  refine zL O (λhc2=>?_) (λhc2=>?_)
  ·replace hc2:=xT hc2
   refine zH (AL O (AL O (asg' O (asg' O (q3 (sL [2,3,4,7,8] O) (AL O (AD (v:=(vN (nw b))) (AE O underlying255) O (AD (AT (c:=(((nw b)+1:Nat):Int)) O O (AV (a:=nw b) (b:=1) Z)) O (zZ (V:=λb6=>(qz (jk b6) ((nw b)+1) ((nw b)+1))) (T:=92) (cs:=Ak (List.replicate ((nw b)+1) 0)) (AI O) (DR (m:=(nw b)+1) (c:=(nw b)+1) O O Z Z) O (BA O) λb6=>asg' O (q3 (sL [2,3,4,7,8,9] O) ?_))))))))))
   refine AL O (AL O (yk (i:=0) (j:=1) (ns:=Ak (AJ b)) (cs':=Ak (AJ b++(List.replicate (nw b+1) 0).drop (AJ b).length)) (L':=[AX b6 92 (Ak (AJ b++(List.replicate (nw b+1) 0).drop (AJ b).length)),AX b5 92 (Ak (Aw b)),AX b4 92 (Ak (Aw a)),AX b3 71 (AU 0),AX b2 71 (AU b),AX b1 71 (AU a)]) O (AI O) O O O O (by rw [M6,If]) (BS _) (O9 _) Z (by rw [BS];simp;try omega) (O_ _ _) O (BA O) (q3 (sL [2,3,4,7,8,9] O) (asg' O (oNl' (q1 (q4 (AL O (AD (v:=(vN ((nw b)+1))) (AE O underlying255) O (AL O (oNl' ?_)))))))))))
   refine zB (sL [2,3,4,7,8,9,10,52,53] O) (zA (zJ ?_))
   refine yR (tg λ(i:Nat) (os:List Nat) (c:Nat)=>i<=nw b+1/\os.length=nw b+1/\W32 os/\c<=1/\val os+c*4294967296^i=b+val ((AJ a).take i)) (tg λ(i:Nat) (os:List Nat) (c:Nat)=>[(4,(pP b3 0)),(8,(qz (jk b4) (nw a) ((Aw a).length))),(9,(qz (jk b6) ((nw b)+1) ((nw b)+1))),(52,(vN ((nw b)+1))),(53,(vN i)),(10,(vK .u32 c))]) (tg λ(i:Nat) (os:List Nat) (c:Nat)=>[AX b6 92 (Ak os),AX b5 92 (Ak (Aw b)),AX b4 92 (Ak (Aw a)),AX b3 71 (AU 0),AX b2 71 (AU b),AX b1 71 (AU a)]) (tg λ(i:Nat) (os:List Nat) (c:Nat)=>nw b+1-i) 0 (AJ b++(List.replicate (nw b+1) 0).drop (AJ b).length) 0 (⟨xJ _,(Fx b 1).1,(Fx b 1).2.1,Z,by rw [(Fx b 1).2.2];simp [val]⟩) (sF O) sr (λi os c hJ=>?_)
   obtain ⟨hi,hl,hw32,hcc,hv⟩:=hJ
   refine q4 (AD (Aa (c:=(decide (i<((nw b)+1)))) O O (DB (a:=i) (b:=(nw b)+1))) O (oNl' (q1 ?_)))
   refine zL O (λhc3=>?_) (λhc3=>?_)
   ·replace hc3:=xT hc3
    refine zC (q1 (zJ (q4 (AL O (asg' O (q3 (sL [4,8,9,52,53,10,11] O) (asg' O (oNl' (q1 (q4 (AL O ?_)))))))))))
    refine AL O (AD (v:=(vN (nw a))) (AE O underlying255) O (AD (Aa (c:=(decide (i<(nw a)))) O O (DB (a:=i) (b:=nw a))) O (oNl' (zB (sL [4,8,9,52,53,10,11,12,59] O) (zA ?_)))))
    refine yd (tg True) (tg [(4,(pP b3 0)),(8,(qz (jk b4) (nw a) ((Aw a).length))),(9,(qz (jk b6) ((nw b)+1) ((nw b)+1))),(52,(vN ((nw b)+1))),(53,(vN i)),(10,(vK .u32 c)),(11,(vN i)),(12,(vK .u32 ((AJ a).getD i 0)))]) (tg [AX b6 92 (Ak os),AX b5 92 (Ak (Aw b)),AX b4 92 (Ak (Aw a)),AX b3 71 (AU 0),AX b2 71 (AU b),AX b1 71 (AU a)]) ?_ ?_
    ·refine zL O (λhc4=>?_) (λhc4=>?_)
     ·replace hc4:=xT hc4
      refine zH (AL O (AL O (AD (v:=(pP b4 i)) (AG (j:=i) O O underlying255 sizeOf92 O Z jX) O ?_)))
      have hx1:(Aw a).getD i 0<4294967296:=W32.getD (CY a) i
      exact AD (AH (i:=2) (v:=(vK .u32 ((Aw a).getD i 0))) O O isAgg92 (BH (xs:=Aw a) (j:=i) Z)) O (zI (k:=63) (u:=(vK .u32 ((AJ a).getD i 0))) O (by rw [Dt hc4]) (asg' O (oNl' (zB (sL [4,8,9,52,53,10,11,12] O) (yE  (trivial) (sF O) sr)))))
     ·replace hc4:=xS hc4
      exact zC (yU (k:=12) (u:=Value.int .u32 (((AJ a).getD i 0:Nat):Int)) O (by rw [Ep hc4];rfl) (yE  (trivial) (sF O) sr))
    ·intro hJ
     refine zA (zH (AL O (AL O (AL O (AL O (AD (v:=(pP b6 i)) (AG (j:=i) O O underlying255 sizeOf92 O Z jX) O ?_))))))
     have hx2:os.getD i 0<4294967296:=W32.getD hw32 i
     refine AD (AH (i:=0) (v:=(vK .u32 (os.getD i 0))) O O isAgg92 (BH (xs:=os) (j:=i) Z)) O (AL O (AL O ?_))
     have hya:=(Bt a).getD i
     have hyb:=(Bt b).getD i
     refine ck' call240 (Ka (os.getD i 0) ((AJ a).getD i 0) c Z Z Z) O (AL O (AD (AK (v:=(vK .u32 (((os.getD i 0)+((AJ a).getD i 0)+c)%4294967296))) O O) O (AD (AK (v:=(vK .u32 (((os.getD i 0)+((AJ a).getD i 0)+c)/4294967296))) O O) O (AD (v:=(pP b6 i)) (AG (j:=i) O O underlying255 sizeOf92 O Z jX) O (zp (i:=0) (off:=i) (vs:=[(vK .u32 (((os.getD i 0)+((AJ a).getD i 0)+c)%4294967296))]) (cs':=Ak (os.set i (((os.getD i 0)+((AJ a).getD i 0)+c)%4294967296))) (L':=[AX b6 92 (Ak (os.set i (((os.getD i 0)+((AJ a).getD i 0)+c)%4294967296))),AX b5 92 (Ak (Aw b)),AX b4 92 (Ak (Aw a)),AX b3 71 (AU 0),AX b2 71 (AU b),AX b1 71 (AU a)]) (AI O) O O O O O sizeOf92 O (Ct (BS _) Z) (CN Z) O (asg' O (oNl' (zB (sL [4,8,9,52,53,10,11,12] O) (zG (zA (zH ?_)))))))))))
     exact AD (AT (c:=((i+1:Nat):Int)) O O (AV (a:=i) (b:=1) Z)) O (AL O (oNl' (zB (sL [4,8,9,52,53,10,11,12] O) (yK (i+1) (os.set i ((os.getD i 0+(AJ a).getD i 0+c)%4294967296)) ((os.getD i 0+(AJ a).getD i 0+c)/4294967296) (⟨Z,by rw [List.length_set];exact hl,W32.set hw32 Z i,Z,OF hl hc3 hv⟩) Z (sF O) sr))))
   ·replace hc3:=xS hc3
    refine zU (zO (yA (zP (q2 (AL O (DH call206 (λw hw=>Jf _ ((nw b)+1) ((nw b)+1) os hw32 (by first|omega|(rw [rowN_length];omega)|simp|(simp;omega)) (by first|omega|simp|(simp;omega)) (by first|omega|simp|(simp;omega)) w (hw.get (i:=0) O)) O (zI (k:=79) (u:=(aG (AU (a+b)))) O (by rw [List.take_of_length_le (show os.length<=nw b+1 by omega),OE (X:=b) (Y:=a) (c:=c) (i:=i) hl hw32 Z (WB Z) (by rw [hv,DY Z]),Nat.add_comm]) (Ge O sizeOf71 O (oNl' (zB (sL [4,8,9,52,53,10] O) (zA ?_)))))))))))
    exact zF (ret_one O (Ao (i:=3) (cs:=AU (a+b)) O O isAgg71 sizeOf71 O) (λw hw=>⟨rfl,hw.out⟩))
  ·replace hc2:=xS hc2
   refine zC (q2 (AL O (AD (v:=(vN (nw a))) (AE O underlying255) O (AD (AT (c:=(((nw a)+1:Nat):Int)) O O (AV (a:=nw a) (b:=1) Z)) O (zZ (V:=λb6=>(qz (jk b6) ((nw a)+1) ((nw a)+1))) (T:=92) (cs:=Ak (List.replicate ((nw a)+1) 0)) (AI O) (DR (m:=(nw a)+1) (c:=(nw a)+1) O O Z Z) O (BA O) λb6=>asg' O (q3 (sL [2,3,4,7,8,9] O) (AL O (AL O (yk (i:=0) (j:=2) (ns:=Ak (AJ a)) (cs':=Ak (AJ a++(List.replicate (nw a+1) 0).drop (AJ a).length)) (L':=[AX b6 92 (Ak (AJ a++(List.replicate (nw a+1) 0).drop (AJ a).length)),AX b5 92 (Ak (Aw b)),AX b4 92 (Ak (Aw a)),AX b3 71 (AU 0),AX b2 71 (AU b),AX b1 71 (AU a)]) O (AI O) O O O O (by rw [M6,If]) (BS _) (O9 _) Z (by rw [BS];simp;try omega) (O_ _ _) O (BA O) (q3 (sL [2,3,4,7,8,9] O) ?_))))))))))
   refine asg' O (oNl' (q1 (q4 (AL O (AD (v:=(vN ((nw a)+1))) (AE O underlying255) O (AL O (oNl' (zB (sL [2,3,4,7,8,9,10,52,53] O) (zA (zJ ?_))))))))))
   refine yR (tg λ(i:Nat) (os:List Nat) (c:Nat)=>i<=nw a+1/\os.length=nw a+1/\W32 os/\c<=1/\val os+c*4294967296^i=a+val ((AJ b).take i)) (tg λ(i:Nat) (os:List Nat) (c:Nat)=>[(4,(pP b3 0)),(8,(qz (jk b5) (nw b) ((Aw b).length))),(9,(qz (jk b6) ((nw a)+1) ((nw a)+1))),(52,(vN ((nw a)+1))),(53,(vN i)),(10,(vK .u32 c))]) (tg λ(i:Nat) (os:List Nat) (c:Nat)=>[AX b6 92 (Ak os),AX b5 92 (Ak (Aw b)),AX b4 92 (Ak (Aw a)),AX b3 71 (AU 0),AX b2 71 (AU b),AX b1 71 (AU a)]) (tg λ(i:Nat) (os:List Nat) (c:Nat)=>nw a+1-i) 0 (AJ a++(List.replicate (nw a+1) 0).drop (AJ a).length) 0 (⟨xJ _,(Fx a 1).1,(Fx a 1).2.1,Z,by rw [(Fx a 1).2.2];simp [val]⟩) (sF O) sr (λi os c hJ=>?_)
   obtain ⟨hi,hl,hw32,hcc,hv⟩:=hJ
   refine q4 (AD (Aa (c:=(decide (i<((nw a)+1)))) O O (DB (a:=i) (b:=(nw a)+1))) O (oNl' (q1 ?_)))
   refine zL O (λhc3=>?_) (λhc3=>?_)
   ·replace hc3:=xT hc3
    refine zC (q1 (zJ (q4 (AL O (asg' O (q3 (sL [4,8,9,52,53,10,11] O) (asg' O (oNl' (q1 (q4 (AL O ?_)))))))))))
    refine AL O (AD (v:=(vN (nw b))) (AE O underlying255) O (AD (Aa (c:=(decide (i<(nw b)))) O O (DB (a:=i) (b:=nw b))) O (oNl' (zB (sL [4,8,9,52,53,10,11,12,59] O) (zA ?_)))))
    refine yd (tg True) (tg [(4,(pP b3 0)),(8,(qz (jk b5) (nw b) ((Aw b).length))),(9,(qz (jk b6) ((nw a)+1) ((nw a)+1))),(52,(vN ((nw a)+1))),(53,(vN i)),(10,(vK .u32 c)),(11,(vN i)),(12,(vK .u32 ((AJ b).getD i 0)))]) (tg [AX b6 92 (Ak os),AX b5 92 (Ak (Aw b)),AX b4 92 (Ak (Aw a)),AX b3 71 (AU 0),AX b2 71 (AU b),AX b1 71 (AU a)]) ?_ ?_
    ·refine zL O (λhc4=>?_) (λhc4=>?_)
     ·replace hc4:=xT hc4
      refine zH (AL O (AL O (AD (v:=(pP b5 i)) (AG (j:=i) O O underlying255 sizeOf92 O Z jX) O ?_)))
      have hx3:(Aw b).getD i 0<4294967296:=W32.getD (CY b) i
      exact AD (AH (i:=1) (v:=(vK .u32 ((Aw b).getD i 0))) O O isAgg92 (BH (xs:=Aw b) (j:=i) Z)) O (zI (k:=63) (u:=(vK .u32 ((AJ b).getD i 0))) O (by rw [Dt hc4]) (asg' O (oNl' (zB (sL [4,8,9,52,53,10,11,12] O) (yE  (trivial) (sF O) sr)))))
     ·replace hc4:=xS hc4
      exact zC (yU (k:=12) (u:=Value.int .u32 (((AJ b).getD i 0:Nat):Int)) O (by rw [Ep hc4];rfl) (yE  (trivial) (sF O) sr))
    ·intro hJ
     refine zA (zH (AL O (AL O (AL O (AL O (AD (v:=(pP b6 i)) (AG (j:=i) O O underlying255 sizeOf92 O Z jX) O ?_))))))
     have hx4:os.getD i 0<4294967296:=W32.getD hw32 i
     refine AD (AH (i:=0) (v:=(vK .u32 (os.getD i 0))) O O isAgg92 (BH (xs:=os) (j:=i) Z)) O (AL O (AL O ?_))
     have hya:=(Bt a).getD i
     have hyb:=(Bt b).getD i
     refine ck' call240 (Ka (os.getD i 0) ((AJ b).getD i 0) c Z Z Z) O (AL O (AD (AK (v:=(vK .u32 (((os.getD i 0)+((AJ b).getD i 0)+c)%4294967296))) O O) O (AD (AK (v:=(vK .u32 (((os.getD i 0)+((AJ b).getD i 0)+c)/4294967296))) O O) O (AD (v:=(pP b6 i)) (AG (j:=i) O O underlying255 sizeOf92 O Z jX) O (zp (i:=0) (off:=i) (vs:=[(vK .u32 (((os.getD i 0)+((AJ b).getD i 0)+c)%4294967296))]) (cs':=Ak (os.set i (((os.getD i 0)+((AJ b).getD i 0)+c)%4294967296))) (L':=[AX b6 92 (Ak (os.set i (((os.getD i 0)+((AJ b).getD i 0)+c)%4294967296))),AX b5 92 (Ak (Aw b)),AX b4 92 (Ak (Aw a)),AX b3 71 (AU 0),AX b2 71 (AU b),AX b1 71 (AU a)]) (AI O) O O O O O sizeOf92 O (Ct (BS _) Z) (CN Z) O (asg' O (oNl' (zB (sL [4,8,9,52,53,10,11,12] O) (zG (zA (zH ?_)))))))))))
     exact AD (AT (c:=((i+1:Nat):Int)) O O (AV (a:=i) (b:=1) Z)) O (AL O (oNl' (zB (sL [4,8,9,52,53,10,11,12] O) (yK (i+1) (os.set i ((os.getD i 0+(AJ b).getD i 0+c)%4294967296)) ((os.getD i 0+(AJ b).getD i 0+c)/4294967296) (⟨Z,by rw [List.length_set];exact hl,W32.set hw32 Z i,Z,OF hl hc3 hv⟩) Z (sF O) sr))))
   ·replace hc3:=xS hc3
    refine zU (zO (yA (zP (q2 (AL O (DH call206 (λw hw=>Jf _ ((nw a)+1) ((nw a)+1) os hw32 (by first|omega|(rw [rowN_length];omega)|simp|(simp;omega)) (by first|omega|simp|(simp;omega)) (by first|omega|simp|(simp;omega)) w (hw.get (i:=0) O)) O (zI (k:=79) (u:=(aG (AU (a+b)))) O (by rw [List.take_of_length_le (show os.length<=nw a+1 by omega),OE (X:=a) (Y:=b) (c:=c) (i:=i) hl hw32 Z (WB Z) (by rw [hv,DY Z])]) (Ge O sizeOf71 O (oNl' (zB (sL [4,8,9,52,53,10] O) (zA ?_)))))))))))
    exact zF (ret_one O (Ao (i:=3) (cs:=AU (a+b)) O O isAgg71 sizeOf71 O) (λw hw=>⟨rfl,hw.out⟩))
end
end Go.Proofs.YtpolhpjiahbidaaGreatDoor
