import Derived.Test.YtpgncndhhhllfaaGreatPart03
import Derived.Test.YtpgncndhhhllfaaGreatPart12
import Derived.Test.YtpgncndhhhllfaaGreatPart13
namespace Go.Proofs.YtpgncndhhhllfaaGreat
open Go Go.RowKit Go.Proofs.Tryz
set_option linter.unusedVariables false
set_option linter.unusedSimpArgs false
section
set_option maxRecDepth 100000
theorem PR {R P D Q X:Nat} (h1:D=Q+X) (h2:Q<=R) (h3:R<P) (h4:R<D) (h5:X<=P):R+P-D+X=R-Q+P:=by omega
theorem Vw (a b p q c1 c2:Nat) (ha:nw a<=1099511627776) (hb2:2<=nw b) (hba:nw b<=nw a) (w:World) (hp:w.heap[p]?=some (.cells (Aq (Ax a)).toArray 50 (0,0))) (hq:w.heap[q]?=some (.cells (Aq (Ax b)).toArray 50 (0,0))):Calls prog 141 #[(Value.slice (some ⟨p,0,none⟩) (nw a) c1),(Value.slice (some ⟨q,0,none⟩) (nw b) c2)] w (λe w'=>∃b1 b2,e=.returned (.tuple #[.slice (some ⟨b1,0,none⟩) (nw a+1-nw b) (nw a+1-nw b),.slice (some ⟨b2,0,none⟩) (nw a+1) (nw a+1)])/\F0 w.heap.size w w'/\w.heap.size<=b1/\w.heap.size<=b2/\b1≠b2/\w'.heap[b1]?=some (.cells (Aq (CU (nw a+1-nw b) (a/b))).toArray 50 (0,0))/\w'.heap[b2]?=some (.cells (Aq (CU (nw a+1) (a%b))).toArray 50 (0,0))):=by
 have hla:=CE a
 have hlb:=CE b
 have hb0:0<b:=Nat.pos_of_ne_zero (λh=>by rw [h,MS] at hb2;omega)
 obtain ⟨s,hs⟩:∃s,s=32-bl ((AQ b).getD (nw b-1) 0):=⟨_,rfl⟩
 obtain ⟨hs32,hlow,hhigh⟩:=Xi Z hs
 obtain ⟨m,hm⟩:∃m,m=nw a+1-nw b:=⟨_,rfl⟩
 obtain ⟨V,hV⟩:∃V,V=b*2^s:=⟨_,rfl⟩
 obtain ⟨vb,hvb⟩:∃vb,vb=CU (nw b+1) (b*2^s):=⟨_,rfl⟩
 have hbig:b*2^s<4294967296^(nw b+1):=Nat.lt_of_lt_of_le hhigh (Nat.pow_le_pow_right Z Z)
 have hN:PA vb (nw b) V:=⟨by rw [hvb];exact DZ _ _,by rw [hvb];exact Bd _ _,hb2,by rw [hvb,hV];exact EJ _ _ hbig,by rw [hV];exact hlow,by rw [hV];exact hhigh⟩
 have hst:=Pe rfl Z hs32 hlow hm hba
 have hA:val (CU (nw a+1) (a*2^s))=a*2^s:=EJ _ _ (by rw [Nat.pow_succ];exact Nat.mul_lt_mul_of_lt_of_le (Bs a) (Nat.le_trans (Nat.pow_le_pow_right Z (show s<=32 by omega)) (by decide)) Z)
 have hvlen:=hN.len
 have htop:=hN.top
 have htw:=(M4 (b:=b) Z).2.2
 refine An (args:=[(Value.slice (some ⟨p,0,none⟩) (nw a) c1),(Value.slice (some ⟨q,0,none⟩) (nw b) c2)]) func141 O O (AV O) (AE.subF (sL [0,1] O) (q4 (AI O (AI O (AC.nil (q2 (AM O (AM O (AK (v:=(vN (nw b))) (AF O underlying224) O (AK (BO (c:=(((nw b)-1:Nat):Int)) O O (Br (a:=nw b) (b:=1) Z Z)) O (AK (v:=(pP q ((nw b)-1))) (AP (j:=(nw b)-1) O O underlying224 sizeOf50 O Z (by simp)) O ?_)))))))))))
 have hx1:(Ax b).getD ((nw b)-1) 0<4294967296:=W32.getD (CJ b) ((nw b)-1)
 refine AK (BW (v:=(vK .u32 ((Ax b).getD ((nw b)-1) 0))) O (λw' hw=>CA.at0 (hw.oldCA (by simp) (ER hq)) (BD (xs:=Ax b) (j:=((nw b)-1)) Z)) isAgg50) O (AC.retell (k:=22) (u:=(vK .u32 ((AQ b).getD (nw b-1) 0))) O (by rw [DD Z]) (ck' call158 (Wm ((AQ b).getD (nw b-1) 0) Z) O (AC.retell (k:=23) (u:=(vN s)) O (by rw [hs]) (AI O (q6 (sL [0,1,4,5,6] O) (Cu [(0,true),(1,true),(3,true),(4,true),(6,true),(7,true),(2,false),(5,false),(8,true),(9,true),(10,true)] sr (BU O (BU O (BU O (BU O (BU O ?_)))))))))))
 refine Av (v:=(vN (nw b))) O (AF O underlying224) (OkE.imp O (AC.callB (V:=λb1=>(Value.slice (some ⟨b1,0,none⟩) (nw a+1) (nw a+1))) (T:=50) (cs:=Aq (CU (nw a+1) (a*2^s))) (AT O) (Aw (args:=[(Value.slice (some ⟨p,0,none⟩) (nw a) c1),(vN s)]) O O call159) (λw hw=>(by have h:=JQ p (nw a) c1 s (Ax a) (CJ a) hla Z hs32 w (hw.old (by simp) hp);rw [HF] at h;exact h)) O (AV O) λb1=>OkE.back (sl sr) (OkE.imp O (AC.callB (V:=λb2=>(Value.slice (some ⟨b2,0,none⟩) (nw b+1) (nw b+1))) (T:=50) (cs:=Aq vb) (AT O) (Aw (args:=[(Value.slice (some ⟨q,0,none⟩) (nw b) c2),(vN s)]) O O call159) (λw hw=>(by have h:=JQ q (nw b) c2 s (Ax b) (CJ b) hlb Z hs32 w (hw.old (by simp) hq);rw [HF,<-hvb] at h;exact h)) O (AV O) λb2=>OkE.back (sl (sl sr)) (Av (v:=(Value.slice (some ⟨b2,0,none⟩) (nw b) (nw b+1))) O (Dx (m:=nw b) O O underlying224 sizeOf50 Z) (pS' O (pS' O (OkE.nil (OkQ.subF (sL [1,4,5,6,7,8] O) ?_)))))))))
 refine q2 (AM O (AK (v:=(vN (nw b))) (AF O underlying224) O (AI O (q3 (sL [1,4,5,6,7,8,9] O) (AM O (AK (v:=(vN (nw a+1))) (AF O underlying224) O (AM O (AK (BO (c:=(((nw a+1)-(nw b):Nat):Int)) O O (Br (a:=nw a+1) (b:=nw b) Z Z)) O (AC.retell (k:=38) (u:=(vN m)) O (by rw [hm]) (AC.openV (V:=λb3=>(Value.slice (some ⟨b3,0,none⟩) m m)) (T:=50) (cs:=Aq (List.replicate m 0)) (AT O) (C1 (m:=m) (c:=m) O O Z Z) O (AV O) λb3=>AI O ?_))))))))))
 refine q6 (sL [1,4,5,6,7,8,9] O) (q4 (AM O (AK (v:=(vN m)) (AF O underlying224) O (AK (BO (c:=(((m:Nat):Int)-1)) O O (BJ Z Z)) O (AI O (AC.nil (OkQ.subF (sL [1,4,5,6,7,8,9,10] O) (OkQ.then_ (AE.block ?_)))))))))
 refine AE.lp3 (tg λ(k0:Nat) (us:List Nat) (qs:List Nat)=>k0<=m/\us.length=nw a+1/\W32 us/\qs.length=m/\W32 qs/\(∀j,j<k0->qs.getD j 0=0)/\val us<V*4294967296^k0/\a*2^s=val qs*V+val us) (tg λ(k0:Nat) (us:List Nat) (qs:List Nat)=>[(4,(Value.slice (some ⟨b3,0,none⟩) m m)),(5,(Value.slice none 0 0)),(6,(vN s)),(7,(Value.slice (some ⟨b1,0,none⟩) (nw a+1) (nw a+1))),(8,(Value.slice (some ⟨b2,0,none⟩) (nw b) (nw b+1))),(9,(vN (nw b))),(10,(vI (((k0:Nat):Int)-1)))]) (tg λ(k0:Nat) (us:List Nat) (qs:List Nat)=>[Ah b3 50 (Aq qs),Ah b2 50 (Aq vb),Ah b1 50 (Aq us)]) (tg λ(k0:Nat) (us:List Nat) (qs:List Nat)=>k0) m (CU (nw a+1) (a*2^s)) (List.replicate m 0) (⟨Nat.le_refl _,Bd _ _,DZ _ _,by simp,W32.zeros _,λj _=>by simp [List.getD_eq_getElem?_getD,List.getElem?_replicate];split<;>rfl,by rw [hA,hV];exact hst,by rw [hA,Dk];simp⟩) (sF O) sr (λk0 us qs hJ=>?_)
 obtain ⟨hk0,hul,huw,hql,hqw,hqz,hlt,hAeq⟩:=hJ
 refine AE.seq (q4 (AM O (AK (CI (c:=(decide ((0:Int)<=(((k0:Nat):Int)-1)))) O O O) O (AC.nil (OkQ.subF (sL [4,5,6,7,8,9,10,44] O) (OkQ.then_ ?_))))))
 refine AE.cond O (λhc0=>?_) (λhc0=>?_)
 ·replace hc0:=of_decide_eq_true hc0
  obtain ⟨k,rfl⟩:∃k,k0=k+1:=⟨k0-1,Z⟩
  obtain ⟨top,htp⟩:∃t,t=us.getD (k+nw b) 0*4294967296+us.getD (k+nw b-1) 0:=⟨_,rfl⟩
  obtain ⟨W,hWd⟩:∃x,x=val us/4294967296^k:=⟨_,rfl⟩
  have hWin:=YX hN huw hlt
  rw [<-htp,<-hWd] at hWin
  have hu2:=huw.getD (k+nw b-2)
  have hG0:=OC hN hWin hu2
  have htb:=hWin.topb
  have hq32:=hWin.quo_lt hN.pos
  refine AE.retell (k:=10) (u:=(vN k)) O (by congr 1;omega) (AE.skip (q1 (AE.block (AE.scope (AE.seq (Cu [(0,true),(1,true),(2,true),(3,true),(4,true),(5,true),(6,true),(7,true),(8,true),(9,true),(10,true),(11,true),(12,true),(13,true),(14,true),(15,true),(16,true),(17,true)] sr (BU O (BU O (BU O (Av O (AY (c:=((k+(nw b):Nat):Int)) O O (AU (a:=k) (b:=nw b) Z)) (Av (v:=(pP b1 (k+(nw b)))) O (AP (j:=k+(nw b)) O O underlying224 sizeOf50 O Z (by simp)) ?_)))))))))))
  have hx2:us.getD (k+(nw b)) 0<4294967296:=W32.getD huw (k+(nw b))
  refine Av O (AN (i:=2) (v:=(vK .u32 (us.getD (k+(nw b)) 0))) O O isAgg50 (BD (xs:=us) (j:=(k+(nw b))) Z)) (Av O (A7 (c:=((us.getD (k+(nw b)) 0:Nat):Int)) O underlying50 underlying56 (BT Z)) (Av (v:=(vK .u64 (us.getD (k+nw b) 0*4294967296))) O (Fz (s:=32) O O O (by decide) (GJ (s:=32) Z)) (BU O (BU O (BU O (Av O (AY (c:=((k+(nw b):Nat):Int)) O O (AU (a:=k) (b:=nw b) Z)) (Av O (BO (c:=(((k+(nw b))-1:Nat):Int)) O O (Br (a:=k+(nw b)) (b:=1) Z Z)) (Av (v:=(pP b1 ((k+(nw b))-1))) O (AP (j:=(k+(nw b))-1) O O underlying224 sizeOf50 O Z (by simp)) ?_))))))))
  have hx3:us.getD ((k+(nw b))-1) 0<4294967296:=W32.getD huw ((k+(nw b))-1)
  refine Av O (AN (i:=2) (v:=(vK .u32 (us.getD ((k+(nw b))-1) 0))) O O isAgg50 (BD (xs:=us) (j:=((k+(nw b))-1)) Z)) (Av O (A7 (c:=((us.getD ((k+(nw b))-1) 0:Nat):Int)) O underlying50 underlying56 (BT Z)) (Av O (Ia (c:=((top:Nat):Int)) O O (JK Z Z (((Nat.or_comm _ _).trans ((Gs (s:=32) Z).trans (Nat.add_comm _ _))).trans htp.symm))) (pS' O (OkE.nil (OkQ.subF (sL [4,5,6,7,8,9,10,11] O) (q1 (Cu [(0,true),(1,true),(2,true),(3,true),(4,true),(5,true),(6,true),(7,true),(8,true),(9,true),(10,true),(11,true),(12,true),(13,true),(14,true),(15,true),(16,true),(17,true)] sr (BU O (BU O (BU O (Av O (BO (c:=(((nw b)-1:Nat):Int)) O O (Br (a:=nw b) (b:=1) Z Z)) ?_)))))))))))
  refine Av (v:=(pP b2 ((nw b)-1))) O (AP (j:=(nw b)-1) O O underlying224 sizeOf50 O Z (by simp)) ?_
  have hx4:vb.getD ((nw b)-1) 0<4294967296:=W32.getD hN.w32 ((nw b)-1)
  refine Av O (AN (i:=1) (v:=(vK .u32 (vb.getD ((nw b)-1) 0))) O O isAgg50 (BD (xs:=vb) (j:=((nw b)-1)) Z)) (Av O (A7 (c:=((vb.getD ((nw b)-1) 0:Nat):Int)) O underlying50 underlying56 (BT Z)) (Av O (Ey (c:=((top/(vb.getD ((nw b)-1) 0):Nat):Int)) O O Z (Ho (a:=top) (b:=vb.getD ((nw b)-1) 0) Z)) (BU O (BU O (BU O (Av O (BO (c:=(((nw b)-1:Nat):Int)) O O (Br (a:=nw b) (b:=1) Z Z)) (Av (v:=(pP b2 ((nw b)-1))) O (AP (j:=(nw b)-1) O O underlying224 sizeOf50 O Z (by simp)) ?_)))))))
  have hx5:vb.getD ((nw b)-1) 0<4294967296:=W32.getD hN.w32 ((nw b)-1)
  refine Av O (AN (i:=1) (v:=(vK .u32 (vb.getD ((nw b)-1) 0))) O O isAgg50 (BD (xs:=vb) (j:=((nw b)-1)) Z)) (Av O (A7 (c:=((vb.getD ((nw b)-1) 0:Nat):Int)) O underlying50 underlying56 (BT Z)) (Av O (Cb (c:=((top%(vb.getD ((nw b)-1) 0):Nat):Int)) O O Z (NQ (a:=top) (b:=vb.getD ((nw b)-1) 0))) (pS' O (pS' O (OkE.nil (OkQ.subF (sL [4,5,6,7,8,9,10,12,13] O) (q1 (AE.label (q1 ?_)))))))))
  refine AE.jn1 (tg λ(d:Nat)=>d<=4294967295/\(d=W/V\/d=W/V+1)) (tg λ(d:Nat)=>[(4,(Value.slice (some ⟨b3,0,none⟩) m m)),(5,(Value.slice none 0 0)),(6,(vN s)),(7,(Value.slice (some ⟨b1,0,none⟩) (nw a+1) (nw a+1))),(8,(Value.slice (some ⟨b2,0,none⟩) (nw b) (nw b+1))),(9,(vN (nw b))),(10,(vN k)),(12,(vK .u64 d))]) (tg λ(d:Nat)=>[Ah b3 50 (Aq qs),Ah b2 50 (Aq vb),Ah b1 50 (Aq us)]) ?_ ?_
  ·skip
   refine AE.block ?_
   refine AE.lp2 (tg λ(d:Nat) (r:Nat)=>Hf V W (vb.getD (nw b-1) 0) top d r/\r<8589934592/\d<8589934593) (tg λ(d:Nat) (r:Nat)=>[(4,(Value.slice (some ⟨b3,0,none⟩) m m)),(5,(Value.slice none 0 0)),(6,(vN s)),(7,(Value.slice (some ⟨b1,0,none⟩) (nw a+1) (nw a+1))),(8,(Value.slice (some ⟨b2,0,none⟩) (nw b) (nw b+1))),(9,(vN (nw b))),(10,(vN k)),(12,(vK .u64 d)),(13,(vK .u64 r))]) (tg λ(d:Nat) (r:Nat)=>[Ah b3 50 (Aq qs),Ah b2 50 (Aq vb),Ah b1 50 (Aq us)]) (tg λ(d:Nat) (r:Nat)=>d) (top/vb.getD (nw b-1) 0) (top%vb.getD (nw b-1) 0) (⟨hG0,by have:=Nat.mod_lt top (show vb.getD (nw b-1) 0>0 by omega);omega,Nat.div_lt_of_lt_mul Z⟩) (sF O) sr (λd r hJ=>?_)
   obtain ⟨hG,hr2,hd2⟩:=hJ
   refine AE.seq (q4 (AM O (AK (Eq (c:=(decide (r<=4294967295))) O O (SW (a:=r) (b:=4294967295))) O (AC.nil (OkQ.subF (sL [4,5,6,7,8,9,10,12,13,81] O) (OkQ.then_ ?_))))))
   refine AE.cond O (λhc1=>?_) (λhc1=>?_)
   ·replace hc1:=of_decide_eq_true hc1
    refine AE.skip (OkQ.then_ (AE.block (AE.seq (AE.seq ?_))))
    by_cases hsp:d<=4294967295
    ·skip
     have hv2:=hN.w32.getD (nw b-2)
     have hml:=JN (a:=d) (b:=vb.getD (nw b-2) 0) Z hv2
     refine Cu [(0,true),(1,true),(2,true),(3,true),(4,true),(5,true),(6,true),(7,true),(8,true),(9,true),(10,true),(11,true),(12,true),(13,true),(14,true),(15,true),(16,true),(17,true),(18,true),(19,true),(20,true),(21,true),(22,true),(23,true)] sr (BU O (Av O (Eq (c:=true) O O (SW.trans (decide_eq_true hsp))) (BU O (OkE.pas (v:=(vK .u64 d)) O (AA O) (AW O) O O (OkE.pas (v:=(Value.slice (some ⟨b2,0,none⟩) (nw b) (nw b+1))) O (AA O) (AW O) O O (OkE.pas (v:=(vN (nw b))) O (AA O) (AW O) O O (OkE.pas (v:=(vN ((nw b)-2))) O (AA O) (BO (c:=(((nw b)-2:Nat):Int)) O O (Br (a:=nw b) (b:=2) Z Z)) O O (OkE.pas (v:=(pP b2 ((nw b)-2))) O (AA O) (AP (j:=(nw b)-2) O O underlying224 sizeOf50 O Z (by simp)) O O ?_))))))))
     have hx6:vb.getD ((nw b)-2) 0<4294967296:=W32.getD hN.w32 ((nw b)-2)
     refine OkE.pas (v:=(vK .u32 (vb.getD ((nw b)-2) 0))) O (AA O) (AN (i:=1) (v:=(vK .u32 (vb.getD ((nw b)-2) 0))) O O isAgg50 (BD (xs:=vb) (j:=((nw b)-2)) Z)) O O (OkE.pas (v:=(vK .u64 (vb.getD ((nw b)-2) 0))) O (AA O) (A7 (c:=((vb.getD ((nw b)-2) 0:Nat):Int)) O underlying50 underlying56 (BT Z)) O O (OkE.pas (v:=(vK .u64 (d*(vb.getD ((nw b)-2) 0)))) O (AA O) (DU (c:=((d*(vb.getD ((nw b)-2) 0):Nat):Int)) O O (EY (a:=d) (b:=vb.getD ((nw b)-2) 0) Z)) O O (OkE.pas (v:=(vK .u64 r)) O (AA O) (AW O) O O (OkE.pas (v:=(vK .u64 (r*4294967296))) O (AA O) (Fz (s:=32) O O O (by decide) (GJ (s:=32) Z)) O O (OkE.pas (v:=(Value.slice (some ⟨b1,0,none⟩) (nw a+1) (nw a+1))) O (AA O) (AW O) O O (OkE.pas (v:=(vN k)) O (AA O) (AW O) O O (OkE.pas (v:=(vN (nw b))) O (AA O) (AW O) O O (OkE.pas (v:=(vN (k+(nw b)))) O (AA O) (AY (c:=((k+(nw b):Nat):Int)) O O (AU (a:=k) (b:=nw b) Z)) O O (OkE.pas (v:=(vN ((k+(nw b))-2))) O (AA O) (BO (c:=(((k+(nw b))-2:Nat):Int)) O O (Br (a:=k+(nw b)) (b:=2) Z Z)) O O (OkE.pas (v:=(pP b1 ((k+(nw b))-2))) O (AA O) (AP (j:=(k+(nw b))-2) O O underlying224 sizeOf50 O Z (by simp)) O O ?_))))))))))
     have hx7:us.getD ((k+(nw b))-2) 0<4294967296:=W32.getD huw ((k+(nw b))-2)
     refine OkE.pas (v:=(vK .u32 (us.getD ((k+(nw b))-2) 0))) O (AA O) (AN (i:=2) (v:=(vK .u32 (us.getD ((k+(nw b))-2) 0))) O O isAgg50 (BD (xs:=us) (j:=((k+(nw b))-2)) Z)) O O (OkE.pas (v:=(vK .u64 (us.getD ((k+(nw b))-2) 0))) O (AA O) (A7 (c:=((us.getD ((k+(nw b))-2) 0:Nat):Int)) O underlying50 underlying56 (BT Z)) O O (OkE.pas (v:=(vK .u64 (r*4294967296+us.getD (k+nw b-2) 0))) O (AA O) (Ia (c:=((r*4294967296+us.getD (k+nw b-2) 0:Nat):Int)) O O (JK Z Z (((Nat.or_comm _ _).trans ((Gs (s:=32) Z).trans (Nat.add_comm _ _)))))) O O (OkE.pas (v:=(Value.bool (decide ((d*(vb.getD ((nw b)-2) 0))<=(r*4294967296+us.getD (k+nw b-2) 0))))) O (AA O) (Eq (c:=(decide ((d*(vb.getD ((nw b)-2) 0))<=(r*4294967296+us.getD (k+nw b-2) 0)))) O O (SW (a:=d*(vb.getD ((nw b)-2) 0)) (b:=r*4294967296+us.getD (k+nw b-2) 0))) O O (Av (v:=(Value.bool (decide ((d*(vb.getD ((nw b)-2) 0))<=(r*4294967296+us.getD (k+nw b-2) 0))))) O (AR O O) (OkE.nil (OkQ.subF (sL [4,5,6,7,8,9,10,12,13,105] O) (OkQ.then_ ?_)))))))
     refine AE.cond O (λhc2=>?_) (λhc2=>?_)
     ·replace hc2:=of_decide_eq_true hc2
      have hg:=JY hN hWin hG (.inr ⟨hsp,hc2⟩)
      exact AE.exit (OkQ.then_exit (OkQ.in_exit_ne O (OkQ.round2_exit (OkQ.in_exit (OkQ.join1 d (hg) (sF O) sr)))))
     ·replace hc2:=of_decide_eq_false hc2
      obtain ⟨hng1,hng2⟩:=KJ hN hWin hG (λh=>hc2 h.2)
      refine AE.skip (q2 (AM O (AK (BO (c:=((d-1:Nat):Int)) O O (HN (a:=d) (b:=1) Z Z)) O (AI O (AC.nil (OkQ.subF (sL [4,5,6,7,8,9,10,12,13] O) (OkQ.then_ (AE.region (AM O (AM O (AM O ?_)))))))))))
      refine AK (BO (c:=(((nw b)-1:Nat):Int)) O O (Br (a:=nw b) (b:=1) Z Z)) O (AK (v:=(pP b2 ((nw b)-1))) (AP (j:=(nw b)-1) O O underlying224 sizeOf50 O Z (by simp)) O ?_)
      have hx8:vb.getD ((nw b)-1) 0<4294967296:=W32.getD hN.w32 ((nw b)-1)
      exact AK (AN (i:=1) (v:=(vK .u32 (vb.getD ((nw b)-1) 0))) O O isAgg50 (BD (xs:=vb) (j:=((nw b)-1)) Z)) O (AK (A7 (c:=((vb.getD ((nw b)-1) 0:Nat):Int)) O underlying50 underlying56 (BT Z)) O (AK (AY (c:=((r+(vb.getD ((nw b)-1) 0):Nat):Int)) O O (C9 (a:=r) (b:=vb.getD ((nw b)-1) 0) Z)) O (AI O (AC.nil (OkQ.subF (sL [4,5,6,7,8,9,10,12,13] O) (OkQ.in_normal (OkQ.round2 (d-1) (r+vb.getD (nw b-1) 0) (⟨hng1,Z,Z⟩) Z (sF O) sr)))))))
    ·skip
     obtain ⟨hng1,hng2⟩:=KJ hN hWin hG (λh=>hsp h.1)
     refine Cu [(0,true),(1,true),(2,true),(3,true),(4,true),(5,true),(6,true),(7,true),(8,true),(9,true),(10,true),(11,true),(12,true),(13,true),(14,true),(15,true),(16,true),(17,true),(18,true),(19,true),(20,true),(21,true),(22,true),(23,true)] sr (BU O (Av O (Eq (c:=false) O O (SW.trans (decide_eq_false hsp))) (BU O (OkE.skp O (AD O) O O (OkE.skp O (AD O) O O (OkE.skp O (AD O) O O (OkE.skp O (AD O) O O (OkE.skp O (AD O) O O (OkE.skp O (AD O) O O (OkE.skp O (AD O) O O (OkE.skp O (AD O) O O ?_)))))))))))
     refine OkE.skp O (AD O) O O (OkE.skp O (AD O) O O (OkE.skp O (AD O) O O (OkE.skp O (AD O) O O (OkE.skp O (AD O) O O (OkE.skp O (AD O) O O (OkE.skp O (AD O) O O (OkE.skp O (AD O) O O (OkE.skp O (AD O) O O (OkE.skp O (AD O) O O (OkE.skp O (AD O) O O (OkE.skp O (AD O) O O ?_)))))))))))
     refine Av (v:=(Value.bool false)) O (AO O O) (OkE.nil (OkQ.subF (sL [4,5,6,7,8,9,10,12,13,105] O) (OkQ.then_ (AE.cond_false O (AE.skip (q2 (AM O (AK (BO (c:=((d-1:Nat):Int)) O O (HN (a:=d) (b:=1) Z Z)) O (AI O (AC.nil (OkQ.subF (sL [4,5,6,7,8,9,10,12,13] O) ?_)))))))))))
     refine OkQ.then_ (AE.region (AM O (AM O (AM O (AK (BO (c:=(((nw b)-1:Nat):Int)) O O (Br (a:=nw b) (b:=1) Z Z)) O (AK (v:=(pP b2 ((nw b)-1))) (AP (j:=(nw b)-1) O O underlying224 sizeOf50 O Z (by simp)) O ?_))))))
     have hx9:vb.getD ((nw b)-1) 0<4294967296:=W32.getD hN.w32 ((nw b)-1)
     exact AK (AN (i:=1) (v:=(vK .u32 (vb.getD ((nw b)-1) 0))) O O isAgg50 (BD (xs:=vb) (j:=((nw b)-1)) Z)) O (AK (A7 (c:=((vb.getD ((nw b)-1) 0:Nat):Int)) O underlying50 underlying56 (BT Z)) O (AK (AY (c:=((r+(vb.getD ((nw b)-1) 0):Nat):Int)) O O (C9 (a:=r) (b:=vb.getD ((nw b)-1) 0) Z)) O (AI O (AC.nil (OkQ.subF (sL [4,5,6,7,8,9,10,12,13] O) (OkQ.in_normal (OkQ.round2 (d-1) (r+vb.getD (nw b-1) 0) (⟨hng1,Z,Z⟩) Z (sF O) sr)))))))
   ·replace hc1:=of_decide_eq_false hc1
    have hg:=JY hN hWin hG (.inl Z)
    exact AE.exit (OkQ.then_exit (OkQ.round2_exit (OkQ.in_exit (OkQ.join1 d (hg) (sF O) sr))))
  ·intro d hJ
   obtain ⟨hdb,hdq⟩:=hJ
   refine q1 (q4 (AM O (AM O (AM O (AM O (AK (AY (c:=((k+(nw b):Nat):Int)) O O (AU (a:=k) (b:=nw b) Z)) O (AK (AY (c:=(((k+(nw b))+1:Nat):Int)) O O (AU (a:=k+(nw b)) (b:=1) Z)) O (AK (v:=(Value.slice (some ⟨b1,k,none⟩) (((k+(nw b))+1)-k) ((nw a+1)-k))) (MA (i:=k) (m:=(k+(nw b))+1) O O O underlying224 sizeOf50 Z Z Z (by simp)) O (AC.retell (k:=122) (u:=(Value.slice (some ⟨b1,k,none⟩) (nw b+1) ((nw a+1)-k))) O (by rw [show k+nw b+1-k=nw b+1 by omega]) (AM O (AM O ?_)))))))))))
   refine AC.callM (v:=(Value.bool (decide (val us<d*val (vb.take (nw b))*4294967296^k)))) (i:=2) (cs':=Aq (CU (nw a+1) (val us+(if val us<d*val (vb.take (nw b))*4294967296^k then 4294967296^(k+nw b+1) else 0)-d*val (vb.take (nw b))*4294967296^k))) (L':=[Ah b3 50 (Aq qs),Ah b2 50 (Aq vb),Ah b1 50 (Aq (CU (nw a+1) (val us+(if val us<d*val (vb.take (nw b))*4294967296^k then 4294967296^(k+nw b+1) else 0)-d*val (vb.take (nw b))*4294967296^k)))]) (AT O) (Aw (args:=[(Value.slice (some ⟨b1,k,none⟩) (nw b+1) ((nw a+1)-k)),(Value.slice (some ⟨b2,0,none⟩) (nw b) (nw b+1)),(vK .u64 d)]) O O call160) O (λw hw=>Vx _ _ k (nw b) (nw a+1) _ _ d us vb huw hul hN.w32 Z Z Z Z hWin.fits ((hw.apart (i:=1) (j:=2) (by decide) O O)) w (hw.get (i:=2) O) (hw.get (i:=1) O)) (λd hd=>by cases hd<;>exact (AV O)) O (AC.nil (OkQ.subF (sL [4,5,6,7,8,9,10,12,125] O) (OkQ.then_ ?_)))
   refine AE.jn1 (tg λ(us2:List Nat)=>us2.length=nw a+1/\W32 us2/\val us2=val us-W/V*V*4294967296^k) (tg λ(us2:List Nat)=>[(4,(Value.slice (some ⟨b3,0,none⟩) m m)),(5,(Value.slice none 0 0)),(6,(vN s)),(7,(Value.slice (some ⟨b1,0,none⟩) (nw a+1) (nw a+1))),(8,(Value.slice (some ⟨b2,0,none⟩) (nw b) (nw b+1))),(9,(vN (nw b))),(10,(vN k)),(12,(vK .u64 (W/V)))]) (tg λ(us2:List Nat)=>[Ah b3 50 (Aq qs),Ah b2 50 (Aq vb),Ah b1 50 (Aq us2)]) ?_ ?_
   ·skip
    refine AE.cond O (λhc3=>?_) (λhc3=>?_)
    ·replace hc3:=of_decide_eq_true hc3
     have hP:4294967296^(k+nw b+1)<=4294967296^(nw a+1):=Nat.pow_le_pow_right Z Z
     rw [hN.take] at hc3
     obtain ⟨hde,hdS⟩:=Oy (vb:=vb) hWin hdq hc3
     have hXP:V*4294967296^k<=4294967296^(k+nw b+1):=Nat.le_trans (Nat.mul_le_mul_right _ (Nat.le_of_lt hN.high)) (by rw [<-Nat.pow_add];exact Nat.pow_le_pow_right Z Z)
     have hqle:=PK (vb:=vb) hWin
     have hfit:=hWin.fits
     have hd1:1<=d:=by rw [hde];exact Nat.le_add_left _ _
     have hU1:val (CU (nw a+1) (val us+(if val us<d*val (vb.take (nw b))*4294967296^k then 4294967296^(k+nw b+1) else 0)-d*val (vb.take (nw b))*4294967296^k))=val us+4294967296^(k+nw b+1)-d*V*4294967296^k:=by rw [hN.take,if_pos hc3,EJ _ _ Z]
     have hU1lt:val (CU (nw a+1) (val us+(if val us<d*val (vb.take (nw b))*4294967296^k then 4294967296^(k+nw b+1) else 0)-d*val (vb.take (nw b))*4294967296^k))<4294967296^(k+nw b+1):=by rw [hU1];omega
     refine q4 (AM O (AK (BO (c:=((d-1:Nat):Int)) O O (HN (a:=d) (b:=1) Z Z)) O (AI O (q3 (sL [4,5,6,7,8,9,10,12] O) (AI O (AC.nil (q1 (q4 (AM O (AK (v:=(vN (nw b))) (AF O underlying224) O (AM O ?_)))))))))))
     refine AC.nil (OkQ.then_ (AE.block ?_))
     refine AE.lp3 (tg λ(i:Nat) (os:List Nat) (c:Nat)=>i<=nw b/\os.length=nw a+1/\W32 os/\c<=1/\(∀j,k+nw b+1<=j->os.getD j 0=0)/\val os+c*4294967296^(k+i)=(val us+4294967296^(k+nw b+1)-d*V*4294967296^k)+val (vb.take i)*4294967296^k) (tg λ(i:Nat) (os:List Nat) (c:Nat)=>[(4,(Value.slice (some ⟨b3,0,none⟩) m m)),(5,(Value.slice none 0 0)),(6,(vN s)),(7,(Value.slice (some ⟨b1,0,none⟩) (nw a+1) (nw a+1))),(8,(Value.slice (some ⟨b2,0,none⟩) (nw b) (nw b+1))),(9,(vN (nw b))),(10,(vN k)),(12,(vK .u64 (d-1))),(128,(Value.slice (some ⟨b2,0,none⟩) (nw b) (nw b+1))),(129,(vN (nw b))),(130,(vN i)),(14,(vK .u32 c))]) (tg λ(i:Nat) (os:List Nat) (c:Nat)=>[Ah b3 50 (Aq qs),Ah b2 50 (Aq vb),Ah b1 50 (Aq os)]) (tg λ(i:Nat) (os:List Nat) (c:Nat)=>nw b-i) 0 (CU (nw a+1) (val us+(if val us<d*val (vb.take (nw b))*4294967296^k then 4294967296^(k+nw b+1) else 0)-d*val (vb.take (nw b))*4294967296^k)) 0 (⟨Nat.zero_le _,Bd _ _,DZ _ _,Z,IY hU1lt,by rw [hU1];simp [val]⟩) (sF O) sr (λi os c hJ=>?_)
     obtain ⟨hi,hl,hw32,hcc,hz,hv⟩:=hJ
     refine q4 (AK (Ad (c:=(decide (i<(nw b)))) O O (B7 (a:=i) (b:=nw b))) O (AC.nil (q1 ?_)))
     refine AE.cond O (λhc4=>?_) (λhc4=>?_)
     ·replace hc4:=of_decide_eq_true hc4
      refine AE.skip (q1 (AE.block (q4 (AM O (AK (v:=(pP b2 i)) (AP (j:=i) O O underlying224 sizeOf50 O Z (by simp)) O ?_)))))
      have hx10:vb.getD i 0<4294967296:=W32.getD hN.w32 i
      refine AK (AN (i:=1) (v:=(vK .u32 (vb.getD i 0))) O O isAgg50 (BD (xs:=vb) (j:=i) Z)) O (AI O (AI O (AC.nil (OkQ.subF (sL [4,5,6,7,8,9,10,12,128,129,130,14,15,16] O) (OkQ.then_ (AE.region (AM O (AM O (AM O (AK (AY (c:=((k+i:Nat):Int)) O O (AU (a:=k) (b:=i) Z)) O (AM O ?_)))))))))))
      refine AM O (AM O (AK (AY (c:=((k+i:Nat):Int)) O O (AU (a:=k) (b:=i) Z)) O (AK (v:=(pP b1 (k+i))) (AP (j:=k+i) O O underlying224 sizeOf50 O Z (by simp)) O ?_)))
      have hx11:os.getD (k+i) 0<4294967296:=W32.getD hw32 (k+i)
      refine AK (AN (i:=2) (v:=(vK .u32 (os.getD (k+i) 0))) O O isAgg50 (BD (xs:=os) (j:=(k+i)) Z)) O (AM O (AM O (ck' call144 (KY (os.getD (k+i) 0) (vb.getD i 0) c Z Z Z) O (AM O (AK (AX (v:=(vK .u32 (((os.getD (k+i) 0)+(vb.getD i 0)+c)%4294967296))) O O) O (AK (AX (v:=(vK .u32 (((os.getD (k+i) 0)+(vb.getD i 0)+c)/4294967296))) O O) O (AK (v:=(pP b1 (k+i))) (AP (j:=k+i) O O underlying224 sizeOf50 O Z (by simp)) O (AC.store' (i:=2) (off:=(k+i)) (vs:=[(vK .u32 (((os.getD (k+i) 0)+(vb.getD i 0)+c)%4294967296))]) (cs':=Aq (os.set (k+i) (((os.getD (k+i) 0)+(vb.getD i 0)+c)%4294967296))) (L':=[Ah b3 50 (Aq qs),Ah b2 50 (Aq vb),Ah b1 50 (Aq (os.set (k+i) (((os.getD (k+i) 0)+(vb.getD i 0)+c)%4294967296)))]) (AT O) O O O O O sizeOf50 O (CW (BS _) Z) (B9 Z) O (AI O (AC.nil (OkQ.subF (sL [4,5,6,7,8,9,10,12,128,129,130,14] O) ?_)))))))))))
      exact OkQ.in_normal (OkQ.then_ (AE.region (AK (AY (c:=((i+1:Nat):Int)) O O (AU (a:=i) (b:=1) Z)) O (AM O (AC.nil (OkQ.subF (sL [4,5,6,7,8,9,10,12,128,129,130,14] O) (OkQ.round3 (i+1) (os.set (k+i) ((os.getD (k+i) 0+vb.getD i 0+c)%4294967296)) ((os.getD (k+i) 0+vb.getD i 0+c)/4294967296) (⟨Z,by rw [List.length_set];exact hl,W32.set hw32 Z _,Z,E7 hz Z,Rp hl Z hv⟩) Z (sF O) sr)))))))
     ·replace hc4:=of_decide_eq_false hc4
      have hib:i=nw b:=by omega
      have hv3:=hv
      rw [hib,hN.take] at hv3
      have hbk:=SI (T:=val us-W/V*V*4294967296^k) (P:=4294967296^(k+nw b+1)) hl Z hw32 hcc hz rfl (hv3.trans (PR hdS hqle hfit hc3 hXP)) (Nat.lt_of_le_of_lt (Nat.sub_le _ _) hfit)
      refine AE.exit (OkQ.then_exit (OkQ.round3_exit (OkQ.in_exit (OkQ.then_ (AE.region (AM O (AM O (AM O (AK (AY (c:=((k+(nw b):Nat):Int)) O O (AU (a:=k) (b:=nw b) Z)) O (AK (v:=(pP b1 (k+(nw b)))) (AP (j:=k+(nw b)) O O underlying224 sizeOf50 O Z (by simp)) O ?_))))))))))
      have hx12:os.getD (k+(nw b)) 0<4294967296:=W32.getD hw32 (k+(nw b))
      exact AK (AN (i:=2) (v:=(vK .u32 (os.getD (k+(nw b)) 0))) O O isAgg50 (BD (xs:=os) (j:=(k+(nw b))) Z)) O (AM O (AK (AY (c:=(((os.getD (k+nw b) 0+c)%4294967296:Nat):Int)) O O Up) O (AK (v:=(pP b1 (k+(nw b)))) (AP (j:=k+(nw b)) O O underlying224 sizeOf50 O Z (by simp)) O (AC.store' (i:=2) (off:=(k+(nw b))) (vs:=[(vK .u32 ((os.getD (k+nw b) 0+c)%4294967296))]) (cs':=Aq (os.set (k+(nw b)) ((os.getD (k+nw b) 0+c)%4294967296))) (L':=[Ah b3 50 (Aq qs),Ah b2 50 (Aq vb),Ah b1 50 (Aq (os.set (k+(nw b)) ((os.getD (k+nw b) 0+c)%4294967296)))]) (AT O) O O O O O sizeOf50 O (CW (BS _) Z) (B9 Z) O (AC.nil (OkQ.subF (sL [4,5,6,7,8,9,10,12,128,129,130,14] O) (OkQ.retell (k:=12) (u:=Value.int .u64 ((W/V:Nat):Int)) O (by rw [hde,Nat.add_sub_cancel]) (OkQ.join1 (os.set (k+(nw b)) ((os.getD (k+nw b) 0+c)%4294967296)) (⟨by rw [List.length_set];exact hl,W32.set hw32 Z _,hbk⟩) (sF O) sr))))))))
    ·replace hc3:=of_decide_eq_false hc3
     have hP:4294967296^(k+nw b+1)<=4294967296^(nw a+1):=Nat.pow_le_pow_right Z Z
     rw [hN.take] at hc3
     obtain ⟨hde,hdS⟩:=Pg hN hWin hdq hc3
     have hfit:=hWin.fits
     have hU1:val (CU (nw a+1) (val us+(if val us<d*val (vb.take (nw b))*4294967296^k then 4294967296^(k+nw b+1) else 0)-d*val (vb.take (nw b))*4294967296^k))=val us-W/V*V*4294967296^k:=by rw [hN.take,if_neg hc3,EJ _ _ Z];exact hdS
     exact AE.skip (OkQ.retell (k:=12) (u:=Value.int .u64 ((W/V:Nat):Int)) O (by rw [hde]) (OkQ.join1 (CU (nw a+1) (val us+(if val us<d*val (vb.take (nw b))*4294967296^k then 4294967296^(k+nw b+1) else 0)-d*val (vb.take (nw b))*4294967296^k)) (⟨Bd _ _,DZ _ _,hU1⟩) (sF O) sr))
   ·intro us2 hJ
    obtain ⟨hu2l,hu2w,hu2v⟩:=hJ
    refine OkQ.then_ (AE.region (AM O (AM O (AM O (AK (A7 (c:=((W/V:Nat):Int)) O underlying56 underlying50 (Ca (by exact hq32))) O (AK (v:=(pP b3 k)) (AP (j:=k) O O underlying224 sizeOf50 O Z (by simp)) O (AC.store' (i:=0) (off:=k) (vs:=[(vK .u32 (W/V))]) (cs':=Aq (qs.set k (W/V))) (L':=[Ah b3 50 (Aq (qs.set k (W/V))),Ah b2 50 (Aq vb),Ah b1 50 (Aq us2)]) (AT O) O O O O O sizeOf50 O (CW (BS _) Z) (B9 Z) O (AC.nil (OkQ.subF (sL [4,5,6,7,8,9,10,12] O) (OkQ.scope_normal (OkQ.in_normal ?_)))))))))))
    refine OkQ.then_ (AE.region (AM O (AK (BO (c:=(((k:Nat):Int)-1)) O O (BJ Z Z)) O (AI O (AC.nil (OkQ.subF (sL [4,5,6,7,8,9,10,12] O) ?_))))))
    have hdd:=PS hN hWin hu2v hAeq hql Z (hqz k Z)
    exact OkQ.round3 k us2 (qs.set k (W/V)) (⟨Z,hu2l,hu2w,by rw [List.length_set];exact hql,W32.set hqw hq32 _,λj hj=>by rw [Ij Z];exact hqz j Z,hdd.1,hdd.2⟩) Z (sF O) sr
 ·replace hc0:=of_decide_eq_false hc0
  have hk00:k0=0:=by omega
  have hlt0:=hlt
  rw [hk00,Nat.pow_zero,Nat.mul_one] at hlt0
  have hfin:=R9 (a:=a) (b:=b) (s:=s) (q:=val qs) (r:=val us) hb0 (by rw [<-hV];exact hAeq) (by rw [<-hV];exact hlt0)
  refine AE.exit (OkQ.then_exit (OkQ.round3_exit (OkQ.in_exit (q1 (q4 (AM O (AM O (AC.nil (OkQ.then_ (AE.block ?_))))))))))
  refine AE.lp2 (tg λ(i:Nat) (us3:List Nat)=>i<=s/\us3.length=nw a+1/\W32 us3/\val us3=a%b*2^s/2^i) (tg λ(i:Nat) (us3:List Nat)=>[(4,(Value.slice (some ⟨b3,0,none⟩) m m)),(5,(Value.slice none 0 0)),(7,(Value.slice (some ⟨b1,0,none⟩) (nw a+1) (nw a+1))),(167,(vN s)),(168,(vN i))]) (tg λ(i:Nat) (us3:List Nat)=>[Ah b3 50 (Aq qs),Ah b2 50 (Aq vb),Ah b1 50 (Aq us3)]) (tg λ(i:Nat) (us3:List Nat)=>s-i) 0 us (⟨Nat.zero_le _,hul,huw,by rw [hfin.2];simp⟩) (sF O) sr (λi us3 hJ=>?_)
  obtain ⟨hi,hl3,hw3,hv3⟩:=hJ
  refine q4 (AK (Ad (c:=(decide (i<s))) O O (B7 (a:=i) (b:=s))) O (AC.nil (q1 ?_)))
  refine AE.cond O (λhc5=>?_) (λhc5=>?_)
  ·replace hc5:=of_decide_eq_true hc5
   refine AE.skip (q1 (AE.block (AE.region (AM O (AC.callM (v:=(Value.tuple #[])) (i:=2) (cs':=Aq (CU (nw a+1) (val us3/2))) (L':=[Ah b3 50 (Aq qs),Ah b2 50 (Aq vb),Ah b1 50 (Aq (CU (nw a+1) (val us3/2)))]) (AT O) (Aw (args:=[(Value.slice (some ⟨b1,0,none⟩) (nw a+1) (nw a+1))]) O O call161) O (λw hw=>W1 _ (nw a+1) _ us3 hw3 hl3 Z w (hw.get (i:=2) O)) (λd hd=>by cases hd<;>exact (AV O)) O (AC.nil (OkQ.subF (sL [4,5,7,167,168] O) (OkQ.in_normal (OkQ.then_ (AE.region (AK (AY (c:=((i+1:Nat):Int)) O O (AU (a:=i) (b:=1) Z)) O ?_)))))))))))
   refine AM O (AC.nil (OkQ.subF (sL [4,5,7,167,168] O) ?_))
   have hb3:val us3/2<4294967296^(nw a+1):=Nat.lt_of_le_of_lt (Nat.div_le_self _ _) (by have:=F8 hw3;rw [hl3] at this;exact this)
   exact OkQ.round2 (i+1) (CU (nw a+1) (val us3/2)) (⟨Z,Bd _ _,DZ _ _,by rw [EJ _ _ hb3,hv3,Nat.div_div_eq_div_mul,<-Nat.pow_succ]⟩) Z (sF O) sr
  ·replace hc5:=of_decide_eq_false hc5
   have his:i=s:=by omega
   have hr:val us3=a%b:=by rw [hv3,his,Nat.mul_div_cancel _ (Nat.pow_pos Z)]
   have hr1:=Gq hw3 hl3 hr
   have hq1:=Gq hqw hql hfin.1
   refine AE.exit (OkQ.then_exit (OkQ.round2_exit (OkQ.in_exit (q2 (AM O (AM O (AI O (AI O (AC.nil (OkQ.subF (sL [4,5,7,167,168] O) (OkQ.then_ ?_)))))))))))
   exact AE.ret (Bo O (AZ (v:=(Value.slice (some ⟨b3,0,none⟩) m m)) O) (AZ (v:=(Value.slice (some ⟨b1,0,none⟩) (nw a+1) (nw a+1))) O) (λw hw=>⟨b3,b1,by rw [hm],hw.out,hw.fresh (i:=0) O,hw.fresh (i:=2) O,(hw.apart (i:=0) (j:=2) (by decide) O O),by rw [<-hm,<-hq1];exact hw.get (i:=0) O,by rw [<-hr1];exact hw.get (i:=2) O⟩))
end
end Go.Proofs.YtpgncndhhhllfaaGreat
