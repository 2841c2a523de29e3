import Derived.Test.YtpgncndhhhllfaaGreatPart03
import Derived.Test.YtpgncndhhhllfaaGreatPart12
import Derived.Test.YtpgncndhhhllfaaGreatPart13
namespace Go.Proofs.YtpgncndhhhllfaaGreat
open Go Go.RowKit Go.Proofs.Tryz
set_option linter.unusedVariables false
set_option linter.unusedSimpArgs false
section
set_option maxRecDepth 100000
theorem Pn {R P D Q X:Nat} (h1:D=Q+X) (h2:Q<=R) (h3:R<P) (h4:R<D) (h5:X<=P):R+P-D+X=R-Q+P:=by omega
theorem W4 (a b p q c1 c2:Nat) (ha:nw a<=1099511627776) (hb2:2<=nw b) (hba:nw b<=nw a) (w:World) (hp:w.heap[p]?=some (.cells (Au (A8 a)).toArray 50 (0,0))) (hq:w.heap[q]?=some (.cells (Au (A8 b)).toArray 50 (0,0))):Calls prog 141 #[(Value.slice (some ⟨p,0,none⟩) (nw a) c1),(Value.slice (some ⟨q,0,none⟩) (nw b) c2)] w (λe w'=>∃b1 b2,e=.returned (.tuple #[.slice (some ⟨b1,0,none⟩) (nw a+1-nw b) (nw a+1-nw b),.slice (some ⟨b2,0,none⟩) (nw a+1) (nw a+1)])/\GJ w.heap.size w w'/\w.heap.size<=b1/\w.heap.size<=b2/\b1≠b2/\w'.heap[b1]?=some (.cells (Au (Cg (nw a+1-nw b) (a/b))).toArray 50 (0,0))/\w'.heap[b2]?=some (.cells (Au (Cg (nw a+1) (a%b))).toArray 50 (0,0))):=by
 have hla:=CO a
 have hlb:=CO b
 have hb0:0<b:=Nat.pos_of_ne_zero (λh=>by rw [h,NG] at hb2;omega)
 obtain ⟨s,hs⟩:∃s,s=32-bl ((AR b).getD (nw b-1) 0):=⟨_,rfl⟩
 obtain ⟨hs32,hlow,hhigh⟩:=Z2 Z hs
 obtain ⟨m,hm⟩:∃m,m=nw a+1-nw b:=⟨_,rfl⟩
 obtain ⟨V,hV⟩:∃V,V=b*2^s:=⟨_,rfl⟩
 obtain ⟨vb,hvb⟩:∃vb,vb=Cg (nw b+1) (b*2^s):=⟨_,rfl⟩
 have hbig:b*2^s<4294967296^(nw b+1):=Nat.lt_of_lt_of_le hhigh (Nat.pow_le_pow_right Z Z)
 have hN:Pz vb (nw b) V:=⟨by rw [hvb];exact Dz _ _,by rw [hvb];exact Bh _ _,hb2,by rw [hvb,hV];exact E6 _ _ hbig,by rw [hV];exact hlow,by rw [hV];exact hhigh⟩
 have hst:=Pa rfl Z hs32 hlow hm hba
 have hA:val (Cg (nw a+1) (a*2^s))=a*2^s:=E6 _ _ (by rw [Nat.pow_succ];exact Nat.mul_lt_mul_of_lt_of_le (Bz a) (Nat.le_trans (Nat.pow_le_pow_right Z (show s<=32 by omega)) (by decide)) Z)
 have hvlen:=hN.len
 have htop:=hN.top
 have htw:=(On (b:=b) Z).2.2
 refine Aq (args:=[(Value.slice (some ⟨p,0,none⟩) (nw a) c1),(Value.slice (some ⟨q,0,none⟩) (nw b) c2)]) func141 O O (Ad O) (AE.subF (sL [0,1] O) (q4 (AI O (AI O (AC.nil (q2 (AM O (AM O (AJ (v:=(vN (nw b))) (AF O underlying224) O (AJ (BU (c:=(((nw b)-1:Nat):Int)) O O (By (a:=nw b) (b:=1) Z Z)) O (AJ (v:=(pP q ((nw b)-1))) (AO (j:=(nw b)-1) O O underlying224 sizeOf50 O Z (by simp)) O ?_)))))))))))
 have hx1:(A8 b).getD ((nw b)-1) 0<4294967296:=W32.getD (CS b) ((nw b)-1)
 refine AJ (Ba (v:=(vK .u32 ((A8 b).getD ((nw b)-1) 0))) O (λw' hw=>CA.at0 (hw.oldCA (by simp) (Ew hq)) (BO (xs:=A8 b) (j:=((nw b)-1)) Z)) isAgg50) O (AC.retell (k:=22) (u:=(vK .u32 ((AR b).getD (nw b-1) 0))) O (by rw [DZ Z]) (ck' call158 (Ye ((AR b).getD (nw b-1) 0) Z) O (AC.retell (k:=23) (u:=(vN s)) O (by rw [hs]) (AI O (q6 (sL [0,1,4,5,6] O) (Ck [(0,true),(1,true),(3,true),(4,true),(6,true),(7,true),(2,false),(5,false),(8,true),(9,true),(10,true)] sr (BT O (BT O (BT O (BT O (BT O ?_)))))))))))
 refine Ao (v:=(vN (nw b))) O (AF O underlying224) (OkE.imp O (AC.callB (V:=λb1=>(Value.slice (some ⟨b1,0,none⟩) (nw a+1) (nw a+1))) (T:=50) (cs:=Au (Cg (nw a+1) (a*2^s))) (AP O) (A_ (args:=[(Value.slice (some ⟨p,0,none⟩) (nw a) c1),(vN s)]) O O call159) (λw hw=>(by have h:=KK p (nw a) c1 s (A8 a) (CS a) hla Z hs32 w (hw.old (by simp) hp);rw [H3] at h;exact h)) O (Ad O) λb1=>OkE.back (sl sr) (OkE.imp O (AC.callB (V:=λb2=>(Value.slice (some ⟨b2,0,none⟩) (nw b+1) (nw b+1))) (T:=50) (cs:=Au vb) (AP O) (A_ (args:=[(Value.slice (some ⟨q,0,none⟩) (nw b) c2),(vN s)]) O O call159) (λw hw=>(by have h:=KK q (nw b) c2 s (A8 b) (CS b) hlb Z hs32 w (hw.old (by simp) hq);rw [H3,<-hvb] at h;exact h)) O (Ad O) λb2=>OkE.back (sl (sl sr)) (Ao (v:=(Value.slice (some ⟨b2,0,none⟩) (nw b) (nw b+1))) O (ER (m:=nw b) O O underlying224 sizeOf50 Z) (pS' O (pS' O (OkE.nil (OkQ.subF (sL [1,4,5,6,7,8] O) ?_)))))))))
 refine q2 (AM O (AJ (v:=(vN (nw b))) (AF O underlying224) O (AI O (q3 (sL [1,4,5,6,7,8,9] O) (AM O (AJ (v:=(vN (nw a+1))) (AF O underlying224) O (AM O (AJ (BU (c:=(((nw a+1)-(nw b):Nat):Int)) O O (By (a:=nw a+1) (b:=nw b) Z Z)) O (AC.retell (k:=38) (u:=(vN m)) O (by rw [hm]) (AC.openV (V:=λb3=>(Value.slice (some ⟨b3,0,none⟩) m m)) (T:=50) (cs:=Au (List.replicate m 0)) (AP O) (DG (m:=m) (c:=m) O O Z Z) O (Ad O) λb3=>AI O ?_))))))))))
 refine q6 (sL [1,4,5,6,7,8,9] O) (q4 (AM O (AJ (v:=(vN m)) (AF O underlying224) O (AJ (BU (c:=(((m:Nat):Int)-1)) O O (Ay Z Z)) O (AI O (AC.nil (OkQ.subF (sL [1,4,5,6,7,8,9,10] O) (OkQ.then_ (AE.block ?_)))))))))
 refine AE.lp3 (tg λ(k0:Nat) (us:List Nat) (qs:List Nat)=>k0<=m/\us.length=nw a+1/\W32 us/\qs.length=m/\W32 qs/\(∀j,j<k0->qs.getD j 0=0)/\val us<V*4294967296^k0/\a*2^s=val qs*V+val us) (tg λ(k0:Nat) (us:List Nat) (qs:List Nat)=>[(4,(Value.slice (some ⟨b3,0,none⟩) m m)),(5,(Value.slice none 0 0)),(6,(vN s)),(7,(Value.slice (some ⟨b1,0,none⟩) (nw a+1) (nw a+1))),(8,(Value.slice (some ⟨b2,0,none⟩) (nw b) (nw b+1))),(9,(vN (nw b))),(10,(vI (((k0:Nat):Int)-1)))]) (tg λ(k0:Nat) (us:List Nat) (qs:List Nat)=>[Af b3 50 (Au qs),Af b2 50 (Au vb),Af b1 50 (Au us)]) (tg λ(k0:Nat) (us:List Nat) (qs:List Nat)=>k0) m (Cg (nw a+1) (a*2^s)) (List.replicate m 0) (⟨Nat.le_refl _,Bh _ _,Dz _ _,by simp,W32.zeros _,λj _=>by simp [List.getD_eq_getElem?_getD,List.getElem?_replicate];split<;>rfl,by rw [hA,hV];exact hst,by rw [hA,D5];simp⟩) (sF O) sr (λk0 us qs hJ=>?_)
 obtain ⟨hk0,hul,huw,hql,hqw,hqz,hlt,hAeq⟩:=hJ
 refine AE.seq (q4 (AM O (AJ (DR (c:=(decide ((0:Int)<=(((k0:Nat):Int)-1)))) O O O) O (AC.nil (OkQ.subF (sL [4,5,6,7,8,9,10,44] O) (OkQ.then_ ?_))))))
 refine AE.cond O (λhc0=>?_) (λhc0=>?_)
 ·replace hc0:=of_decide_eq_true hc0
  obtain ⟨k,rfl⟩:∃k,k0=k+1:=⟨k0-1,Z⟩
  obtain ⟨top,htp⟩:∃t,t=us.getD (k+nw b) 0*4294967296+us.getD (k+nw b-1) 0:=⟨_,rfl⟩
  obtain ⟨W,hWd⟩:∃x,x=val us/4294967296^k:=⟨_,rfl⟩
  have hWin:=Zc hN huw hlt
  rw [<-htp,<-hWd] at hWin
  have hu2:=huw.getD (k+nw b-2)
  have hG0:=OE hN hWin hu2
  have htb:=hWin.topb
  have hq32:=hWin.quo_lt hN.pos
  refine AE.retell (k:=10) (u:=(vN k)) O (by congr 1;omega) (AE.skip (q1 (AE.block (AE.scope (AE.seq (Ck [(0,true),(1,true),(2,true),(3,true),(4,true),(5,true),(6,true),(7,true),(8,true),(9,true),(10,true),(11,true),(12,true),(13,true),(14,true),(15,true),(16,true),(17,true)] sr (BT O (BT O (BT O (Ao O (AQ (c:=((k+(nw b):Nat):Int)) O O (AN (a:=k) (b:=nw b) Z)) (Ao (v:=(pP b1 (k+(nw b)))) O (AO (j:=k+(nw b)) O O underlying224 sizeOf50 O Z (by simp)) ?_)))))))))))
  have hx2:us.getD (k+(nw b)) 0<4294967296:=W32.getD huw (k+(nw b))
  refine Ao O (AS (i:=2) (v:=(vK .u32 (us.getD (k+(nw b)) 0))) O O isAgg50 (BO (xs:=us) (j:=(k+(nw b))) Z)) (Ao O (Ax (c:=((us.getD (k+(nw b)) 0:Nat):Int)) O underlying50 underlying56 (BW Z)) (Ao (v:=(vK .u64 (us.getD (k+nw b) 0*4294967296))) O (Ge (s:=32) O O O (by decide) (GC (s:=32) Z)) (BT O (BT O (BT O (Ao O (AQ (c:=((k+(nw b):Nat):Int)) O O (AN (a:=k) (b:=nw b) Z)) (Ao O (BU (c:=(((k+(nw b))-1:Nat):Int)) O O (By (a:=k+(nw b)) (b:=1) Z Z)) (Ao (v:=(pP b1 ((k+(nw b))-1))) O (AO (j:=(k+(nw b))-1) O O underlying224 sizeOf50 O Z (by simp)) ?_))))))))
  have hx3:us.getD ((k+(nw b))-1) 0<4294967296:=W32.getD huw ((k+(nw b))-1)
  refine Ao O (AS (i:=2) (v:=(vK .u32 (us.getD ((k+(nw b))-1) 0))) O O isAgg50 (BO (xs:=us) (j:=((k+(nw b))-1)) Z)) (Ao O (Ax (c:=((us.getD ((k+(nw b))-1) 0:Nat):Int)) O underlying50 underlying56 (BW Z)) (Ao O (JD (c:=((top:Nat):Int)) O O (Jz Z Z (((Nat.or_comm _ _).trans ((HZ (s:=32) Z).trans (Nat.add_comm _ _))).trans htp.symm))) (pS' O (OkE.nil (OkQ.subF (sL [4,5,6,7,8,9,10,11] O) (q1 (Ck [(0,true),(1,true),(2,true),(3,true),(4,true),(5,true),(6,true),(7,true),(8,true),(9,true),(10,true),(11,true),(12,true),(13,true),(14,true),(15,true),(16,true),(17,true)] sr (BT O (BT O (BT O (Ao O (BU (c:=(((nw b)-1:Nat):Int)) O O (By (a:=nw b) (b:=1) Z Z)) ?_)))))))))))
  refine Ao (v:=(pP b2 ((nw b)-1))) O (AO (j:=(nw b)-1) O O underlying224 sizeOf50 O Z (by simp)) ?_
  have hx4:vb.getD ((nw b)-1) 0<4294967296:=W32.getD hN.w32 ((nw b)-1)
  refine Ao O (AS (i:=1) (v:=(vK .u32 (vb.getD ((nw b)-1) 0))) O O isAgg50 (BO (xs:=vb) (j:=((nw b)-1)) Z)) (Ao O (Ax (c:=((vb.getD ((nw b)-1) 0:Nat):Int)) O underlying50 underlying56 (BW Z)) (Ao O (Dm (c:=((top/(vb.getD ((nw b)-1) 0):Nat):Int)) O O Z (Hs (a:=top) (b:=vb.getD ((nw b)-1) 0) Z)) (BT O (BT O (BT O (Ao O (BU (c:=(((nw b)-1:Nat):Int)) O O (By (a:=nw b) (b:=1) Z Z)) (Ao (v:=(pP b2 ((nw b)-1))) O (AO (j:=(nw b)-1) O O underlying224 sizeOf50 O Z (by simp)) ?_)))))))
  have hx5:vb.getD ((nw b)-1) 0<4294967296:=W32.getD hN.w32 ((nw b)-1)
  refine Ao O (AS (i:=1) (v:=(vK .u32 (vb.getD ((nw b)-1) 0))) O O isAgg50 (BO (xs:=vb) (j:=((nw b)-1)) Z)) (Ao O (Ax (c:=((vb.getD ((nw b)-1) 0:Nat):Int)) O underlying50 underlying56 (BW Z)) (Ao O (Bg (c:=((top%(vb.getD ((nw b)-1) 0):Nat):Int)) O O Z (F3 (a:=top) (b:=vb.getD ((nw b)-1) 0))) (pS' O (pS' O (OkE.nil (OkQ.subF (sL [4,5,6,7,8,9,10,12,13] O) (q1 (AE.label (q1 ?_)))))))))
  refine AE.jn1 (tg λ(d:Nat)=>d<=4294967295/\(d=W/V\/d=W/V+1)) (tg λ(d:Nat)=>[(4,(Value.slice (some ⟨b3,0,none⟩) m m)),(5,(Value.slice none 0 0)),(6,(vN s)),(7,(Value.slice (some ⟨b1,0,none⟩) (nw a+1) (nw a+1))),(8,(Value.slice (some ⟨b2,0,none⟩) (nw b) (nw b+1))),(9,(vN (nw b))),(10,(vN k)),(12,(vK .u64 d))]) (tg λ(d:Nat)=>[Af b3 50 (Au qs),Af b2 50 (Au vb),Af b1 50 (Au us)]) ?_ ?_
  ·skip
   refine AE.block ?_
   refine AE.lp2 (tg λ(d:Nat) (r:Nat)=>IJ V W (vb.getD (nw b-1) 0) top d r/\r<8589934592/\d<8589934593) (tg λ(d:Nat) (r:Nat)=>[(4,(Value.slice (some ⟨b3,0,none⟩) m m)),(5,(Value.slice none 0 0)),(6,(vN s)),(7,(Value.slice (some ⟨b1,0,none⟩) (nw a+1) (nw a+1))),(8,(Value.slice (some ⟨b2,0,none⟩) (nw b) (nw b+1))),(9,(vN (nw b))),(10,(vN k)),(12,(vK .u64 d)),(13,(vK .u64 r))]) (tg λ(d:Nat) (r:Nat)=>[Af b3 50 (Au qs),Af b2 50 (Au vb),Af b1 50 (Au us)]) (tg λ(d:Nat) (r:Nat)=>d) (top/vb.getD (nw b-1) 0) (top%vb.getD (nw b-1) 0) (⟨hG0,by have:=Nat.mod_lt top (show vb.getD (nw b-1) 0>0 by omega);omega,Nat.div_lt_of_lt_mul Z⟩) (sF O) sr (λd r hJ=>?_)
   obtain ⟨hG,hr2,hd2⟩:=hJ
   refine AE.seq (q4 (AM O (AJ (HS (c:=(decide (r<=4294967295))) O O (Wh (a:=r) (b:=4294967295))) O (AC.nil (OkQ.subF (sL [4,5,6,7,8,9,10,12,13,81] O) (OkQ.then_ ?_))))))
   refine AE.cond O (λhc1=>?_) (λhc1=>?_)
   ·replace hc1:=of_decide_eq_true hc1
    refine AE.skip (OkQ.then_ (AE.block (AE.seq (AE.seq ?_))))
    by_cases hsp:d<=4294967295
    ·skip
     have hv2:=hN.w32.getD (nw b-2)
     have hml:=Kg (a:=d) (b:=vb.getD (nw b-2) 0) Z hv2
     refine Ck [(0,true),(1,true),(2,true),(3,true),(4,true),(5,true),(6,true),(7,true),(8,true),(9,true),(10,true),(11,true),(12,true),(13,true),(14,true),(15,true),(16,true),(17,true),(18,true),(19,true),(20,true),(21,true),(22,true),(23,true)] sr (BT O (Ao O (HS (c:=true) O O (Wh.trans (decide_eq_true hsp))) (BT O (OkE.pas (v:=(vK .u64 d)) O (AA O) (AU O) O O (OkE.pas (v:=(Value.slice (some ⟨b2,0,none⟩) (nw b) (nw b+1))) O (AA O) (AU O) O O (OkE.pas (v:=(vN (nw b))) O (AA O) (AU O) O O (OkE.pas (v:=(vN ((nw b)-2))) O (AA O) (BU (c:=(((nw b)-2:Nat):Int)) O O (By (a:=nw b) (b:=2) Z Z)) O O (OkE.pas (v:=(pP b2 ((nw b)-2))) O (AA O) (AO (j:=(nw b)-2) O O underlying224 sizeOf50 O Z (by simp)) O O ?_))))))))
     have hx6:vb.getD ((nw b)-2) 0<4294967296:=W32.getD hN.w32 ((nw b)-2)
     refine OkE.pas (v:=(vK .u32 (vb.getD ((nw b)-2) 0))) O (AA O) (AS (i:=1) (v:=(vK .u32 (vb.getD ((nw b)-2) 0))) O O isAgg50 (BO (xs:=vb) (j:=((nw b)-2)) Z)) O O (OkE.pas (v:=(vK .u64 (vb.getD ((nw b)-2) 0))) O (AA O) (Ax (c:=((vb.getD ((nw b)-2) 0:Nat):Int)) O underlying50 underlying56 (BW Z)) O O (OkE.pas (v:=(vK .u64 (d*(vb.getD ((nw b)-2) 0)))) O (AA O) (Bs (c:=((d*(vb.getD ((nw b)-2) 0):Nat):Int)) O O (Ev (a:=d) (b:=vb.getD ((nw b)-2) 0) Z)) O O (OkE.pas (v:=(vK .u64 r)) O (AA O) (AU O) O O (OkE.pas (v:=(vK .u64 (r*4294967296))) O (AA O) (Ge (s:=32) O O O (by decide) (GC (s:=32) Z)) O O (OkE.pas (v:=(Value.slice (some ⟨b1,0,none⟩) (nw a+1) (nw a+1))) O (AA O) (AU O) O O (OkE.pas (v:=(vN k)) O (AA O) (AU O) O O (OkE.pas (v:=(vN (nw b))) O (AA O) (AU O) O O (OkE.pas (v:=(vN (k+(nw b)))) O (AA O) (AQ (c:=((k+(nw b):Nat):Int)) O O (AN (a:=k) (b:=nw b) Z)) O O (OkE.pas (v:=(vN ((k+(nw b))-2))) O (AA O) (BU (c:=(((k+(nw b))-2:Nat):Int)) O O (By (a:=k+(nw b)) (b:=2) Z Z)) O O (OkE.pas (v:=(pP b1 ((k+(nw b))-2))) O (AA O) (AO (j:=(k+(nw b))-2) O O underlying224 sizeOf50 O Z (by simp)) O O ?_))))))))))
     have hx7:us.getD ((k+(nw b))-2) 0<4294967296:=W32.getD huw ((k+(nw b))-2)
     refine OkE.pas (v:=(vK .u32 (us.getD ((k+(nw b))-2) 0))) O (AA O) (AS (i:=2) (v:=(vK .u32 (us.getD ((k+(nw b))-2) 0))) O O isAgg50 (BO (xs:=us) (j:=((k+(nw b))-2)) Z)) O O (OkE.pas (v:=(vK .u64 (us.getD ((k+(nw b))-2) 0))) O (AA O) (Ax (c:=((us.getD ((k+(nw b))-2) 0:Nat):Int)) O underlying50 underlying56 (BW Z)) O O (OkE.pas (v:=(vK .u64 (r*4294967296+us.getD (k+nw b-2) 0))) O (AA O) (JD (c:=((r*4294967296+us.getD (k+nw b-2) 0:Nat):Int)) O O (Jz Z Z (((Nat.or_comm _ _).trans ((HZ (s:=32) Z).trans (Nat.add_comm _ _)))))) O O (OkE.pas (v:=(Value.bool (decide ((d*(vb.getD ((nw b)-2) 0))<=(r*4294967296+us.getD (k+nw b-2) 0))))) O (AA O) (HS (c:=(decide ((d*(vb.getD ((nw b)-2) 0))<=(r*4294967296+us.getD (k+nw b-2) 0)))) O O (Wh (a:=d*(vb.getD ((nw b)-2) 0)) (b:=r*4294967296+us.getD (k+nw b-2) 0))) O O (Ao (v:=(Value.bool (decide ((d*(vb.getD ((nw b)-2) 0))<=(r*4294967296+us.getD (k+nw b-2) 0))))) O (AW O O) (OkE.nil (OkQ.subF (sL [4,5,6,7,8,9,10,12,13,105] O) (OkQ.then_ ?_)))))))
     refine AE.cond O (λhc2=>?_) (λhc2=>?_)
     ·replace hc2:=of_decide_eq_true hc2
      have hg:=LK hN hWin hG (.inr ⟨hsp,hc2⟩)
      exact AE.exit (OkQ.then_exit (OkQ.in_exit_ne O (OkQ.round2_exit (OkQ.in_exit (OkQ.join1 d (hg) (sF O) sr)))))
     ·replace hc2:=of_decide_eq_false hc2
      obtain ⟨hng1,hng2⟩:=KM hN hWin hG (λh=>hc2 h.2)
      refine AE.skip (q2 (AM O (AJ (BU (c:=((d-1:Nat):Int)) O O (Hr (a:=d) (b:=1) Z Z)) O (AI O (AC.nil (OkQ.subF (sL [4,5,6,7,8,9,10,12,13] O) (OkQ.then_ (AE.region (AM O (AM O (AM O ?_)))))))))))
      refine AJ (BU (c:=(((nw b)-1:Nat):Int)) O O (By (a:=nw b) (b:=1) Z Z)) O (AJ (v:=(pP b2 ((nw b)-1))) (AO (j:=(nw b)-1) O O underlying224 sizeOf50 O Z (by simp)) O ?_)
      have hx8:vb.getD ((nw b)-1) 0<4294967296:=W32.getD hN.w32 ((nw b)-1)
      exact AJ (AS (i:=1) (v:=(vK .u32 (vb.getD ((nw b)-1) 0))) O O isAgg50 (BO (xs:=vb) (j:=((nw b)-1)) Z)) O (AJ (Ax (c:=((vb.getD ((nw b)-1) 0:Nat):Int)) O underlying50 underlying56 (BW Z)) O (AJ (AQ (c:=((r+(vb.getD ((nw b)-1) 0):Nat):Int)) O O (DU (a:=r) (b:=vb.getD ((nw b)-1) 0) Z)) O (AI O (AC.nil (OkQ.subF (sL [4,5,6,7,8,9,10,12,13] O) (OkQ.in_normal (OkQ.round2 (d-1) (r+vb.getD (nw b-1) 0) (⟨hng1,Z,Z⟩) Z (sF O) sr)))))))
    ·skip
     obtain ⟨hng1,hng2⟩:=KM hN hWin hG (λh=>hsp h.1)
     refine Ck [(0,true),(1,true),(2,true),(3,true),(4,true),(5,true),(6,true),(7,true),(8,true),(9,true),(10,true),(11,true),(12,true),(13,true),(14,true),(15,true),(16,true),(17,true),(18,true),(19,true),(20,true),(21,true),(22,true),(23,true)] sr (BT O (Ao O (HS (c:=false) O O (Wh.trans (decide_eq_false hsp))) (BT O (OkE.skp O (AH O) O O (OkE.skp O (AH O) O O (OkE.skp O (AH O) O O (OkE.skp O (AH O) O O (OkE.skp O (AH O) O O (OkE.skp O (AH O) O O (OkE.skp O (AH O) O O (OkE.skp O (AH O) O O ?_)))))))))))
     refine OkE.skp O (AH O) O O (OkE.skp O (AH O) O O (OkE.skp O (AH O) O O (OkE.skp O (AH O) O O (OkE.skp O (AH O) O O (OkE.skp O (AH O) O O (OkE.skp O (AH O) O O (OkE.skp O (AH O) O O (OkE.skp O (AH O) O O (OkE.skp O (AH O) O O (OkE.skp O (AH O) O O (OkE.skp O (AH O) O O ?_)))))))))))
     refine Ao (v:=(Value.bool false)) O (AT O O) (OkE.nil (OkQ.subF (sL [4,5,6,7,8,9,10,12,13,105] O) (OkQ.then_ (AE.cond_false O (AE.skip (q2 (AM O (AJ (BU (c:=((d-1:Nat):Int)) O O (Hr (a:=d) (b:=1) Z Z)) O (AI O (AC.nil (OkQ.subF (sL [4,5,6,7,8,9,10,12,13] O) ?_)))))))))))
     refine OkQ.then_ (AE.region (AM O (AM O (AM O (AJ (BU (c:=(((nw b)-1:Nat):Int)) O O (By (a:=nw b) (b:=1) Z Z)) O (AJ (v:=(pP b2 ((nw b)-1))) (AO (j:=(nw b)-1) O O underlying224 sizeOf50 O Z (by simp)) O ?_))))))
     have hx9:vb.getD ((nw b)-1) 0<4294967296:=W32.getD hN.w32 ((nw b)-1)
     exact AJ (AS (i:=1) (v:=(vK .u32 (vb.getD ((nw b)-1) 0))) O O isAgg50 (BO (xs:=vb) (j:=((nw b)-1)) Z)) O (AJ (Ax (c:=((vb.getD ((nw b)-1) 0:Nat):Int)) O underlying50 underlying56 (BW Z)) O (AJ (AQ (c:=((r+(vb.getD ((nw b)-1) 0):Nat):Int)) O O (DU (a:=r) (b:=vb.getD ((nw b)-1) 0) Z)) O (AI O (AC.nil (OkQ.subF (sL [4,5,6,7,8,9,10,12,13] O) (OkQ.in_normal (OkQ.round2 (d-1) (r+vb.getD (nw b-1) 0) (⟨hng1,Z,Z⟩) Z (sF O) sr)))))))
   ·replace hc1:=of_decide_eq_false hc1
    have hg:=LK hN hWin hG (.inl Z)
    exact AE.exit (OkQ.then_exit (OkQ.round2_exit (OkQ.in_exit (OkQ.join1 d (hg) (sF O) sr))))
  ·intro d hJ
   obtain ⟨hdb,hdq⟩:=hJ
   refine q1 (q4 (AM O (AM O (AM O (AM O (AJ (AQ (c:=((k+(nw b):Nat):Int)) O O (AN (a:=k) (b:=nw b) Z)) O (AJ (AQ (c:=(((k+(nw b))+1:Nat):Int)) O O (AN (a:=k+(nw b)) (b:=1) Z)) O (AJ (v:=(Value.slice (some ⟨b1,k,none⟩) (((k+(nw b))+1)-k) ((nw a+1)-k))) (Mk (i:=k) (m:=(k+(nw b))+1) O O O underlying224 sizeOf50 Z Z Z (by simp)) O (AC.retell (k:=122) (u:=(Value.slice (some ⟨b1,k,none⟩) (nw b+1) ((nw a+1)-k))) O (by rw [show k+nw b+1-k=nw b+1 by omega]) (AM O (AM O ?_)))))))))))
   refine AC.callM (v:=(Value.bool (decide (val us<d*val (vb.take (nw b))*4294967296^k)))) (i:=2) (cs':=Au (Cg (nw a+1) (val us+(if val us<d*val (vb.take (nw b))*4294967296^k then 4294967296^(k+nw b+1) else 0)-d*val (vb.take (nw b))*4294967296^k))) (L':=[Af b3 50 (Au qs),Af b2 50 (Au vb),Af b1 50 (Au (Cg (nw a+1) (val us+(if val us<d*val (vb.take (nw b))*4294967296^k then 4294967296^(k+nw b+1) else 0)-d*val (vb.take (nw b))*4294967296^k)))]) (AP O) (A_ (args:=[(Value.slice (some ⟨b1,k,none⟩) (nw b+1) ((nw a+1)-k)),(Value.slice (some ⟨b2,0,none⟩) (nw b) (nw b+1)),(vK .u64 d)]) O O call160) O (λw hw=>Xg _ _ k (nw b) (nw a+1) _ _ d us vb huw hul hN.w32 Z Z Z Z hWin.fits ((hw.apart (i:=1) (j:=2) (by decide) O O)) w (hw.get (i:=2) O) (hw.get (i:=1) O)) (λd hd=>by cases hd<;>exact (Ad O)) O (AC.nil (OkQ.subF (sL [4,5,6,7,8,9,10,12,125] O) (OkQ.then_ ?_)))
   refine AE.jn1 (tg λ(us2:List Nat)=>us2.length=nw a+1/\W32 us2/\val us2=val us-W/V*V*4294967296^k) (tg λ(us2:List Nat)=>[(4,(Value.slice (some ⟨b3,0,none⟩) m m)),(5,(Value.slice none 0 0)),(6,(vN s)),(7,(Value.slice (some ⟨b1,0,none⟩) (nw a+1) (nw a+1))),(8,(Value.slice (some ⟨b2,0,none⟩) (nw b) (nw b+1))),(9,(vN (nw b))),(10,(vN k)),(12,(vK .u64 (W/V)))]) (tg λ(us2:List Nat)=>[Af b3 50 (Au qs),Af b2 50 (Au vb),Af b1 50 (Au us2)]) ?_ ?_
   ·skip
    refine AE.cond O (λhc3=>?_) (λhc3=>?_)
    ·replace hc3:=of_decide_eq_true hc3
     have hP:4294967296^(k+nw b+1)<=4294967296^(nw a+1):=Nat.pow_le_pow_right Z Z
     rw [hN.take] at hc3
     obtain ⟨hde,hdS⟩:=QC (vb:=vb) hWin hdq hc3
     have hXP:V*4294967296^k<=4294967296^(k+nw b+1):=Nat.le_trans (Nat.mul_le_mul_right _ (Nat.le_of_lt hN.high)) (by rw [<-Nat.pow_add];exact Nat.pow_le_pow_right Z Z)
     have hqle:=P5 (vb:=vb) hWin
     have hfit:=hWin.fits
     have hd1:1<=d:=by rw [hde];exact Nat.le_add_left _ _
     have hU1:val (Cg (nw a+1) (val us+(if val us<d*val (vb.take (nw b))*4294967296^k then 4294967296^(k+nw b+1) else 0)-d*val (vb.take (nw b))*4294967296^k))=val us+4294967296^(k+nw b+1)-d*V*4294967296^k:=by rw [hN.take,if_pos hc3,E6 _ _ Z]
     have hU1lt:val (Cg (nw a+1) (val us+(if val us<d*val (vb.take (nw b))*4294967296^k then 4294967296^(k+nw b+1) else 0)-d*val (vb.take (nw b))*4294967296^k))<4294967296^(k+nw b+1):=by rw [hU1];omega
     refine q4 (AM O (AJ (BU (c:=((d-1:Nat):Int)) O O (Hr (a:=d) (b:=1) Z Z)) O (AI O (q3 (sL [4,5,6,7,8,9,10,12] O) (AI O (AC.nil (q1 (q4 (AM O (AJ (v:=(vN (nw b))) (AF O underlying224) O (AM O ?_)))))))))))
     refine AC.nil (OkQ.then_ (AE.block ?_))
     refine AE.lp3 (tg λ(i:Nat) (os:List Nat) (c:Nat)=>i<=nw b/\os.length=nw a+1/\W32 os/\c<=1/\(∀j,k+nw b+1<=j->os.getD j 0=0)/\val os+c*4294967296^(k+i)=(val us+4294967296^(k+nw b+1)-d*V*4294967296^k)+val (vb.take i)*4294967296^k) (tg λ(i:Nat) (os:List Nat) (c:Nat)=>[(4,(Value.slice (some ⟨b3,0,none⟩) m m)),(5,(Value.slice none 0 0)),(6,(vN s)),(7,(Value.slice (some ⟨b1,0,none⟩) (nw a+1) (nw a+1))),(8,(Value.slice (some ⟨b2,0,none⟩) (nw b) (nw b+1))),(9,(vN (nw b))),(10,(vN k)),(12,(vK .u64 (d-1))),(128,(Value.slice (some ⟨b2,0,none⟩) (nw b) (nw b+1))),(129,(vN (nw b))),(130,(vN i)),(14,(vK .u32 c))]) (tg λ(i:Nat) (os:List Nat) (c:Nat)=>[Af b3 50 (Au qs),Af b2 50 (Au vb),Af b1 50 (Au os)]) (tg λ(i:Nat) (os:List Nat) (c:Nat)=>nw b-i) 0 (Cg (nw a+1) (val us+(if val us<d*val (vb.take (nw b))*4294967296^k then 4294967296^(k+nw b+1) else 0)-d*val (vb.take (nw b))*4294967296^k)) 0 (⟨Nat.zero_le _,Bh _ _,Dz _ _,Z,JB hU1lt,by rw [hU1];simp [val]⟩) (sF O) sr (λi os c hJ=>?_)
     obtain ⟨hi,hl,hw32,hcc,hz,hv⟩:=hJ
     refine q4 (AJ (Ac (c:=(decide (i<(nw b)))) O O (CD (a:=i) (b:=nw b))) O (AC.nil (q1 ?_)))
     refine AE.cond O (λhc4=>?_) (λhc4=>?_)
     ·replace hc4:=of_decide_eq_true hc4
      refine AE.skip (q1 (AE.block (q4 (AM O (AJ (v:=(pP b2 i)) (AO (j:=i) O O underlying224 sizeOf50 O Z (by simp)) O ?_)))))
      have hx10:vb.getD i 0<4294967296:=W32.getD hN.w32 i
      refine AJ (AS (i:=1) (v:=(vK .u32 (vb.getD i 0))) O O isAgg50 (BO (xs:=vb) (j:=i) Z)) O (AI O (AI O (AC.nil (OkQ.subF (sL [4,5,6,7,8,9,10,12,128,129,130,14,15,16] O) (OkQ.then_ (AE.region (AM O (AM O (AM O (AJ (AQ (c:=((k+i:Nat):Int)) O O (AN (a:=k) (b:=i) Z)) O (AM O ?_)))))))))))
      refine AM O (AM O (AJ (AQ (c:=((k+i:Nat):Int)) O O (AN (a:=k) (b:=i) Z)) O (AJ (v:=(pP b1 (k+i))) (AO (j:=k+i) O O underlying224 sizeOf50 O Z (by simp)) O ?_)))
      have hx11:os.getD (k+i) 0<4294967296:=W32.getD hw32 (k+i)
      refine AJ (AS (i:=2) (v:=(vK .u32 (os.getD (k+i) 0))) O O isAgg50 (BO (xs:=os) (j:=(k+i)) Z)) O (AM O (AM O (ck' call144 (Kn (os.getD (k+i) 0) (vb.getD i 0) c Z Z Z) O (AM O (AJ (Ab (v:=(vK .u32 (((os.getD (k+i) 0)+(vb.getD i 0)+c)%4294967296))) O O) O (AJ (Ab (v:=(vK .u32 (((os.getD (k+i) 0)+(vb.getD i 0)+c)/4294967296))) O O) O (AJ (v:=(pP b1 (k+i))) (AO (j:=k+i) O O underlying224 sizeOf50 O Z (by simp)) O (AC.store' (i:=2) (off:=(k+i)) (vs:=[(vK .u32 (((os.getD (k+i) 0)+(vb.getD i 0)+c)%4294967296))]) (cs':=Au (os.set (k+i) (((os.getD (k+i) 0)+(vb.getD i 0)+c)%4294967296))) (L':=[Af b3 50 (Au qs),Af b2 50 (Au vb),Af b1 50 (Au (os.set (k+i) (((os.getD (k+i) 0)+(vb.getD i 0)+c)%4294967296)))]) (AP O) O O O O O sizeOf50 O (Ch (BV _) Z) (CK Z) O (AI O (AC.nil (OkQ.subF (sL [4,5,6,7,8,9,10,12,128,129,130,14] O) ?_)))))))))))
      exact OkQ.in_normal (OkQ.then_ (AE.region (AJ (AQ (c:=((i+1:Nat):Int)) O O (AN (a:=i) (b:=1) Z)) O (AM O (AC.nil (OkQ.subF (sL [4,5,6,7,8,9,10,12,128,129,130,14] O) (OkQ.round3 (i+1) (os.set (k+i) ((os.getD (k+i) 0+vb.getD i 0+c)%4294967296)) ((os.getD (k+i) 0+vb.getD i 0+c)/4294967296) (⟨Z,by rw [List.length_set];exact hl,W32.set hw32 Z _,Z,FT hz Z,S1 hl Z hv⟩) Z (sF O) sr)))))))
     ·replace hc4:=of_decide_eq_false hc4
      have hib:i=nw b:=by omega
      have hv3:=hv
      rw [hib,hN.take] at hv3
      have hbk:=SK (T:=val us-W/V*V*4294967296^k) (P:=4294967296^(k+nw b+1)) hl Z hw32 hcc hz rfl (hv3.trans (Pn hdS hqle hfit hc3 hXP)) (Nat.lt_of_le_of_lt (Nat.sub_le _ _) hfit)
      refine AE.exit (OkQ.then_exit (OkQ.round3_exit (OkQ.in_exit (OkQ.then_ (AE.region (AM O (AM O (AM O (AJ (AQ (c:=((k+(nw b):Nat):Int)) O O (AN (a:=k) (b:=nw b) Z)) O (AJ (v:=(pP b1 (k+(nw b)))) (AO (j:=k+(nw b)) O O underlying224 sizeOf50 O Z (by simp)) O ?_))))))))))
      have hx12:os.getD (k+(nw b)) 0<4294967296:=W32.getD hw32 (k+(nw b))
      exact AJ (AS (i:=2) (v:=(vK .u32 (os.getD (k+(nw b)) 0))) O O isAgg50 (BO (xs:=os) (j:=(k+(nw b))) Z)) O (AM O (AJ (AQ (c:=(((os.getD (k+nw b) 0+c)%4294967296:Nat):Int)) O O UO) O (AJ (v:=(pP b1 (k+(nw b)))) (AO (j:=k+(nw b)) O O underlying224 sizeOf50 O Z (by simp)) O (AC.store' (i:=2) (off:=(k+(nw b))) (vs:=[(vK .u32 ((os.getD (k+nw b) 0+c)%4294967296))]) (cs':=Au (os.set (k+(nw b)) ((os.getD (k+nw b) 0+c)%4294967296))) (L':=[Af b3 50 (Au qs),Af b2 50 (Au vb),Af b1 50 (Au (os.set (k+(nw b)) ((os.getD (k+nw b) 0+c)%4294967296)))]) (AP O) O O O O O sizeOf50 O (Ch (BV _) Z) (CK Z) O (AC.nil (OkQ.subF (sL [4,5,6,7,8,9,10,12,128,129,130,14] O) (OkQ.retell (k:=12) (u:=Value.int .u64 ((W/V:Nat):Int)) O (by rw [hde,Nat.add_sub_cancel]) (OkQ.join1 (os.set (k+(nw b)) ((os.getD (k+nw b) 0+c)%4294967296)) (⟨by rw [List.length_set];exact hl,W32.set hw32 Z _,hbk⟩) (sF O) sr))))))))
    ·replace hc3:=of_decide_eq_false hc3
     have hP:4294967296^(k+nw b+1)<=4294967296^(nw a+1):=Nat.pow_le_pow_right Z Z
     rw [hN.take] at hc3
     obtain ⟨hde,hdS⟩:=Pj hN hWin hdq hc3
     have hfit:=hWin.fits
     have hU1:val (Cg (nw a+1) (val us+(if val us<d*val (vb.take (nw b))*4294967296^k then 4294967296^(k+nw b+1) else 0)-d*val (vb.take (nw b))*4294967296^k))=val us-W/V*V*4294967296^k:=by rw [hN.take,if_neg hc3,E6 _ _ Z];exact hdS
     exact AE.skip (OkQ.retell (k:=12) (u:=Value.int .u64 ((W/V:Nat):Int)) O (by rw [hde]) (OkQ.join1 (Cg (nw a+1) (val us+(if val us<d*val (vb.take (nw b))*4294967296^k then 4294967296^(k+nw b+1) else 0)-d*val (vb.take (nw b))*4294967296^k)) (⟨Bh _ _,Dz _ _,hU1⟩) (sF O) sr))
   ·intro us2 hJ
    obtain ⟨hu2l,hu2w,hu2v⟩:=hJ
    refine OkQ.then_ (AE.region (AM O (AM O (AM O (AJ (Ax (c:=((W/V:Nat):Int)) O underlying56 underlying50 (CQ (by exact hq32))) O (AJ (v:=(pP b3 k)) (AO (j:=k) O O underlying224 sizeOf50 O Z (by simp)) O (AC.store' (i:=0) (off:=k) (vs:=[(vK .u32 (W/V))]) (cs':=Au (qs.set k (W/V))) (L':=[Af b3 50 (Au (qs.set k (W/V))),Af b2 50 (Au vb),Af b1 50 (Au us2)]) (AP O) O O O O O sizeOf50 O (Ch (BV _) Z) (CK Z) O (AC.nil (OkQ.subF (sL [4,5,6,7,8,9,10,12] O) (OkQ.scope_normal (OkQ.in_normal ?_)))))))))))
    refine OkQ.then_ (AE.region (AM O (AJ (BU (c:=(((k:Nat):Int)-1)) O O (Ay Z Z)) O (AI O (AC.nil (OkQ.subF (sL [4,5,6,7,8,9,10,12] O) ?_))))))
    have hdd:=Pw hN hWin hu2v hAeq hql Z (hqz k Z)
    exact OkQ.round3 k us2 (qs.set k (W/V)) (⟨Z,hu2l,hu2w,by rw [List.length_set];exact hql,W32.set hqw hq32 _,λj hj=>by rw [JJ Z];exact hqz j Z,hdd.1,hdd.2⟩) Z (sF O) sr
 ·replace hc0:=of_decide_eq_false hc0
  have hk00:k0=0:=by omega
  have hlt0:=hlt
  rw [hk00,Nat.pow_zero,Nat.mul_one] at hlt0
  have hfin:=TL (a:=a) (b:=b) (s:=s) (q:=val qs) (r:=val us) hb0 (by rw [<-hV];exact hAeq) (by rw [<-hV];exact hlt0)
  refine AE.exit (OkQ.then_exit (OkQ.round3_exit (OkQ.in_exit (q1 (q4 (AM O (AM O (AC.nil (OkQ.then_ (AE.block ?_))))))))))
  refine AE.lp2 (tg λ(i:Nat) (us3:List Nat)=>i<=s/\us3.length=nw a+1/\W32 us3/\val us3=a%b*2^s/2^i) (tg λ(i:Nat) (us3:List Nat)=>[(4,(Value.slice (some ⟨b3,0,none⟩) m m)),(5,(Value.slice none 0 0)),(7,(Value.slice (some ⟨b1,0,none⟩) (nw a+1) (nw a+1))),(167,(vN s)),(168,(vN i))]) (tg λ(i:Nat) (us3:List Nat)=>[Af b3 50 (Au qs),Af b2 50 (Au vb),Af b1 50 (Au us3)]) (tg λ(i:Nat) (us3:List Nat)=>s-i) 0 us (⟨Nat.zero_le _,hul,huw,by rw [hfin.2];simp⟩) (sF O) sr (λi us3 hJ=>?_)
  obtain ⟨hi,hl3,hw3,hv3⟩:=hJ
  refine q4 (AJ (Ac (c:=(decide (i<s))) O O (CD (a:=i) (b:=s))) O (AC.nil (q1 ?_)))
  refine AE.cond O (λhc5=>?_) (λhc5=>?_)
  ·replace hc5:=of_decide_eq_true hc5
   refine AE.skip (q1 (AE.block (AE.region (AM O (AC.callM (v:=(Value.tuple #[])) (i:=2) (cs':=Au (Cg (nw a+1) (val us3/2))) (L':=[Af b3 50 (Au qs),Af b2 50 (Au vb),Af b1 50 (Au (Cg (nw a+1) (val us3/2)))]) (AP O) (A_ (args:=[(Value.slice (some ⟨b1,0,none⟩) (nw a+1) (nw a+1))]) O O call161) O (λw hw=>Yc _ (nw a+1) _ us3 hw3 hl3 Z w (hw.get (i:=2) O)) (λd hd=>by cases hd<;>exact (Ad O)) O (AC.nil (OkQ.subF (sL [4,5,7,167,168] O) (OkQ.in_normal (OkQ.then_ (AE.region (AJ (AQ (c:=((i+1:Nat):Int)) O O (AN (a:=i) (b:=1) Z)) O ?_)))))))))))
   refine AM O (AC.nil (OkQ.subF (sL [4,5,7,167,168] O) ?_))
   have hb3:val us3/2<4294967296^(nw a+1):=Nat.lt_of_le_of_lt (Nat.div_le_self _ _) (by have:=Ga hw3;rw [hl3] at this;exact this)
   exact OkQ.round2 (i+1) (Cg (nw a+1) (val us3/2)) (⟨Z,Bh _ _,Dz _ _,by rw [E6 _ _ hb3,hv3,Nat.div_div_eq_div_mul,<-Nat.pow_succ]⟩) Z (sF O) sr
  ·replace hc5:=of_decide_eq_false hc5
   have his:i=s:=by omega
   have hr:val us3=a%b:=by rw [hv3,his,Nat.mul_div_cancel _ (Nat.pow_pos Z)]
   have hr1:=Hb hw3 hl3 hr
   have hq1:=Hb hqw hql hfin.1
   refine AE.exit (OkQ.then_exit (OkQ.round2_exit (OkQ.in_exit (q2 (AM O (AM O (AI O (AI O (AC.nil (OkQ.subF (sL [4,5,7,167,168] O) (OkQ.then_ ?_)))))))))))
   exact AE.ret (CH O (Ah (v:=(Value.slice (some ⟨b3,0,none⟩) m m)) O) (Ah (v:=(Value.slice (some ⟨b1,0,none⟩) (nw a+1) (nw a+1))) O) (λw hw=>⟨b3,b1,by rw [hm],hw.out,hw.fresh (i:=0) O,hw.fresh (i:=2) O,(hw.apart (i:=0) (j:=2) (by decide) O O),by rw [<-hm,<-hq1];exact hw.get (i:=0) O,by rw [<-hr1];exact hw.get (i:=2) O⟩))
end
end Go.Proofs.YtpgncndhhhllfaaGreat
