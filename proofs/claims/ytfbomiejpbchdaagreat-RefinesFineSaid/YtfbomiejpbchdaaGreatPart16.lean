import Derived.Test.YtfbomiejpbchdaaGreatPart06
import Derived.Test.YtfbomiejpbchdaaGreatPart14
import Derived.Test.YtfbomiejpbchdaaGreatPart15
namespace Go.Proofs.YtfbomiejpbchdaaGreat
open Go Go.RowKit
set_option linter.unusedVariables false
set_option linter.unusedSimpArgs false
section
set_option maxRecDepth 100000
theorem PP {R P D Q X:Nat} (h1:D=Q+X) (h2:Q<=R) (h3:R<P) (h4:R<D) (h5:X<=P):R+P-D+X=R-Q+P:=by omega
theorem Wi (a b p q c1 c2:Nat) (ha:nw a<=1099511627776) (hb2:2<=nw b) (hba:nw b<=nw a) (w:World) (hp:w.heap[p]?=some (.cells (Ao (A8 a)).toArray 101 (0,0))) (hq:w.heap[q]?=some (.cells (Ao (A8 b)).toArray 101 (0,0))):Calls Tryz.prog 196 #[(Value.slice (some ⟨p,0,none⟩) (nw a) c1),(Value.slice (some ⟨q,0,none⟩) (nw b) c2)] w (λe w'=>∃b1 b2,e=.returned (.tuple #[.slice (some ⟨b1,0,none⟩) (nw a+1-nw b) (nw a+1-nw b),.slice (some ⟨b2,0,none⟩) (nw a+1) (nw a+1)])/\FQ w.heap.size w w'/\w.heap.size<=b1/\w.heap.size<=b2/\b1≠b2/\w'.heap[b1]?=some (.cells (Ao (Cg (nw a+1-nw b) (a/b))).toArray 101 (0,0))/\w'.heap[b2]?=some (.cells (Ao (Cg (nw a+1) (a%b))).toArray 101 (0,0))):=by
 have hla:=CN a
 have hlb:=CN b
 have hb0:0<b:=Nat.pos_of_ne_zero (λh=>by rw [h,Md] at hb2;omega)
 obtain ⟨s,hs⟩:∃s,s=32-bl ((AL b).getD (nw b-1) 0):=⟨_,rfl⟩
 obtain ⟨hs32,hlow,hhigh⟩:=X_ (by omega) hs
 obtain ⟨m,hm⟩:∃m,m=nw a+1-nw b:=⟨_,rfl⟩
 obtain ⟨V,hV⟩:∃V,V=b*2^s:=⟨_,rfl⟩
 obtain ⟨vb,hvb⟩:∃vb,vb=Cg (nw b+1) (b*2^s):=⟨_,rfl⟩
 have hbig:b*2^s<4294967296^(nw b+1):=Nat.lt_of_lt_of_le hhigh (Nat.pow_le_pow_right (by omega) (by omega))
 have hN:PH vb (nw b) V:=⟨by rw [hvb];exact D1 _ _,by rw [hvb];exact Bk _ _,hb2,by rw [hvb,hV];exact E9 _ _ hbig,by rw [hV];exact hlow,by rw [hV];exact hhigh⟩
 have hst:=O8 rfl (by omega) hs32 hlow hm hba
 have hA:val (Cg (nw a+1) (a*2^s))=a*2^s:=E9 _ _ (by rw [Nat.pow_succ];exact Nat.mul_lt_mul_of_lt_of_le (B7 a) (Nat.le_trans (Nat.pow_le_pow_right (by omega) (show s<=32 by omega)) (by decide)) (by omega))
 have hvlen:=hN.len
 have htop:=hN.top
 have htw:=(No (b:=b) (by omega)).2.2
 refine Ac (args:=[(Value.slice (some ⟨p,0,none⟩) (nw a) c1),(Value.slice (some ⟨q,0,none⟩) (nw b) c2)]) Tryz.func196 rfl rfl (Ad rfl) (AG.subF (sL [0,1] rfl) (q4 (AK rfl (AK rfl (AF.nil ?_)))))
 refine q2 (AO rfl (AO rfl (AJ (v:=(vN (nw b))) (AI rfl Tryz.underlying232) rfl (AJ (BS (c:=(((nw b)-1:Nat):Int)) rfl rfl (Cm (a:=nw b) (b:=1) (by omega) (by omega))) rfl (AJ (v:=(pP q ((nw b)-1))) (AH (j:=(nw b)-1) rfl rfl Tryz.underlying232 Tryz.sizeOf101 rfl (by omega) (by simp)) rfl ?_)))))
 have hx1:(A8 b).getD ((nw b)-1) 0<4294967296:=W32.getD (CU b) ((nw b)-1)
 refine AJ (Bf (v:=(vK .u32 ((A8 b).getD ((nw b)-1) 0))) rfl (λw' hw=>CA.at0 (hw.oldCA (by simp) (Ei hq)) (BM (xs:=A8 b) (j:=((nw b)-1)) (by omega))) Tryz.isAgg101) rfl (AF.retell (k:=22) (u:=(vK .u32 ((AL b).getD (nw b-1) 0))) rfl (by rw [Da (by omega)]) (BU Tryz.call239 (WD ((AL b).getD (nw b-1) 0) (by omega)) rfl (AF.retell (k:=23) (u:=(vN s)) rfl (by rw [hs]) (AK rfl (q6 (sL [0,1,4,5,6] rfl) ?_)))))
 refine Cq [(0,true),(1,true),(3,true),(4,true),(6,true),(7,true),(2,false),(5,false),(8,true),(9,true),(10,true)] sr (Bc rfl (Bc rfl (Bc rfl (Bc rfl (Bc rfl ?_)))))
 refine Av (v:=(vN (nw b))) rfl (AI rfl Tryz.underlying232) (AS.imp rfl (AF.callB (V:=λb1=>(Value.slice (some ⟨b1,0,none⟩) (nw a+1) (nw a+1))) (T:=101) (cs:=Ao (Cg (nw a+1) (a*2^s))) (AN rfl) (Aq (args:=[(Value.slice (some ⟨p,0,none⟩) (nw a) c1),(vN s)]) rfl rfl Tryz.call240) (λw hw=>(by have h:=LE p (nw a) c1 s (A8 a) (CU a) hla (by omega) hs32 w (hw.old (by simp) hp);rw [IA] at h;exact h)) rfl (Ad rfl) λb1=>AS.back (sl sr) (AS.imp rfl (AF.callB (V:=λb2=>(Value.slice (some ⟨b2,0,none⟩) (nw b+1) (nw b+1))) (T:=101) (cs:=Ao vb) (AN rfl) (Aq (args:=[(Value.slice (some ⟨q,0,none⟩) (nw b) c2),(vN s)]) rfl rfl Tryz.call240) (λw hw=>(by have h:=LE q (nw b) c2 s (A8 b) (CU b) hlb (by omega) hs32 w (hw.old (by simp) hq);rw [IA,<-hvb] at h;exact h)) rfl (Ad rfl) λb2=>?_))))
 refine AS.back (sl (sl sr)) (Av (v:=(Value.slice (some ⟨b2,0,none⟩) (nw b) (nw b+1))) rfl (I_ (m:=nw b) rfl rfl Tryz.underlying232 Tryz.sizeOf101 (by omega)) (FO rfl (FO rfl (AS.nil (AC.subF (sL [1,4,5,6,7,8] rfl) ?_)))))
 refine q2 (AO rfl (AJ (v:=(vN (nw b))) (AI rfl Tryz.underlying232) rfl (AK rfl (q3 (sL [1,4,5,6,7,8,9] rfl) (AO rfl ?_)))))
 refine AJ (v:=(vN (nw a+1))) (AI rfl Tryz.underlying232) rfl (AO rfl (AJ (BS (c:=(((nw a+1)-(nw b):Nat):Int)) rfl rfl (Cm (a:=nw a+1) (b:=nw b) (by omega) (by omega))) rfl (AF.retell (k:=38) (u:=(vN m)) rfl (by rw [hm]) (AF.openV (V:=λb3=>(Value.slice (some ⟨b3,0,none⟩) m m)) (T:=101) (cs:=Ao (List.replicate m 0)) (AN rfl) (DF (m:=m) (c:=m) rfl rfl (by omega) (by omega)) rfl (Ad rfl) λb3=>AK rfl ?_))))
 refine q6 (sL [1,4,5,6,7,8,9] rfl) (q4 (AO rfl (AJ (v:=(vN m)) (AI rfl Tryz.underlying232) rfl (AJ (BS (c:=(((m:Nat):Int)-1)) rfl rfl (BN (by omega) (by omega))) rfl (AK rfl ?_)))))
 refine AF.nil (AC.subF (sL [1,4,5,6,7,8,9,10] rfl) (AC.then_ (AG.block ?_)))
 refine AG.lp3 (tg λ(k0:Nat) (us:List Nat) (qs:List Nat)=>k0<=m/\us.length=nw a+1/\W32 us/\qs.length=m/\W32 qs/\(∀j,j<k0->qs.getD j 0=0)/\val us<V*4294967296^k0/\a*2^s=val qs*V+val us) (tg λ(k0:Nat) (us:List Nat) (qs:List Nat)=>[(4,(Value.slice (some ⟨b3,0,none⟩) m m)),(5,(Value.slice none 0 0)),(6,(vN s)),(7,(Value.slice (some ⟨b1,0,none⟩) (nw a+1) (nw a+1))),(8,(Value.slice (some ⟨b2,0,none⟩) (nw b) (nw b+1))),(9,(vN (nw b))),(10,(vI (((k0:Nat):Int)-1)))]) (tg λ(k0:Nat) (us:List Nat) (qs:List Nat)=>[Ah b3 101 (Ao qs),Ah b2 101 (Ao vb),Ah b1 101 (Ao us)]) (tg λ(k0:Nat) (us:List Nat) (qs:List Nat)=>k0) m (Cg (nw a+1) (a*2^s)) (List.replicate m 0) (⟨Nat.le_refl _,Bk _ _,D1 _ _,by simp,W32.zeros _,λj _=>by simp [List.getD_eq_getElem?_getD,List.getElem?_replicate];split<;>rfl,by rw [hA,hV];exact hst,by rw [hA,D_];simp⟩) (sF rfl) sr (λk0 us qs hJ=>?_)
 obtain ⟨hk0,hul,huw,hql,hqw,hqz,hlt,hAeq⟩:=hJ
 refine AG.seq (q4 (AO rfl (AJ (DT (c:=(decide ((0:Int)<=(((k0:Nat):Int)-1)))) rfl rfl rfl) rfl (AF.nil (AC.subF (sL [4,5,6,7,8,9,10,44] rfl) ?_)))))
 refine AC.then_ ?_
 refine AG.cond rfl (λhc0=>?_) (λhc0=>?_)
 ·replace hc0:=of_decide_eq_true hc0
  obtain ⟨k,rfl⟩:∃k,k0=k+1:=⟨k0-1,by omega⟩
  obtain ⟨top,htp⟩:∃t,t=us.getD (k+nw b) 0*4294967296+us.getD (k+nw b-1) 0:=⟨_,rfl⟩
  obtain ⟨W,hWd⟩:∃x,x=val us/4294967296^k:=⟨_,rfl⟩
  have hWin:=Xl hN huw hlt
  rw [<-htp,<-hWd] at hWin
  have hu2:=huw.getD (k+nw b-2)
  have hG0:=OP hN hWin hu2
  have htb:=hWin.topb
  have hq32:=hWin.quo_lt hN.pos
  refine AG.retell (k:=10) (u:=(vN k)) rfl (by congr 1;omega) (AG.skip (q1 (AG.block (AG.scope (AG.seq ?_)))))
  refine Cq [(0,true),(1,true),(2,true),(3,true),(4,true),(5,true),(6,true),(7,true),(8,true),(9,true),(10,true),(11,true),(12,true),(13,true),(14,true),(15,true),(16,true),(17,true)] sr (Bc rfl (Bc rfl (Bc rfl (Av rfl (AX (c:=((k+(nw b):Nat):Int)) rfl rfl (Ab (a:=k) (b:=nw b) (by omega))) (Av (v:=(pP b1 (k+(nw b)))) rfl (AH (j:=k+(nw b)) rfl rfl Tryz.underlying232 Tryz.sizeOf101 rfl (by omega) (by simp)) ?_)))))
  have hx2:us.getD (k+(nw b)) 0<4294967296:=W32.getD huw (k+(nw b))
  refine Av rfl (AM (i:=2) (v:=(vK .u32 (us.getD (k+(nw b)) 0))) rfl rfl Tryz.isAgg101 (BM (xs:=us) (j:=(k+(nw b))) (by omega))) (Av rfl (Az (c:=((us.getD (k+(nw b)) 0:Nat):Int)) rfl Tryz.underlying101 Tryz.underlying45 (Ba (by omega))) (Av (v:=(vK .u64 (us.getD (k+nw b) 0*4294967296))) rfl (Gx (s:=32) rfl rfl rfl (by decide) (Ge (s:=32) (by omega))) (Bc rfl (Bc rfl (Bc rfl ?_)))))
  refine Av rfl (AX (c:=((k+(nw b):Nat):Int)) rfl rfl (Ab (a:=k) (b:=nw b) (by omega))) (Av rfl (BS (c:=(((k+(nw b))-1:Nat):Int)) rfl rfl (Cm (a:=k+(nw b)) (b:=1) (by omega) (by omega))) (Av (v:=(pP b1 ((k+(nw b))-1))) rfl (AH (j:=(k+(nw b))-1) rfl rfl Tryz.underlying232 Tryz.sizeOf101 rfl (by omega) (by simp)) ?_))
  have hx3:us.getD ((k+(nw b))-1) 0<4294967296:=W32.getD huw ((k+(nw b))-1)
  refine Av rfl (AM (i:=2) (v:=(vK .u32 (us.getD ((k+(nw b))-1) 0))) rfl rfl Tryz.isAgg101 (BM (xs:=us) (j:=((k+(nw b))-1)) (by omega))) (Av rfl (Az (c:=((us.getD ((k+(nw b))-1) 0:Nat):Int)) rfl Tryz.underlying101 Tryz.underlying45 (Ba (by omega))) (Av rfl (I8 (c:=((top:Nat):Int)) rfl rfl (Jn (by omega) (by omega) (((Nat.or_comm _ _).trans ((HZ (s:=32) (by omega)).trans (Nat.add_comm _ _))).trans htp.symm))) (FO rfl (AS.nil (AC.subF (sL [4,5,6,7,8,9,10,11] rfl) ?_)))))
  refine q1 (Cq [(0,true),(1,true),(2,true),(3,true),(4,true),(5,true),(6,true),(7,true),(8,true),(9,true),(10,true),(11,true),(12,true),(13,true),(14,true),(15,true),(16,true),(17,true)] sr (Bc rfl (Bc rfl (Bc rfl (Av rfl (BS (c:=(((nw b)-1:Nat):Int)) rfl rfl (Cm (a:=nw b) (b:=1) (by omega) (by omega))) ?_)))))
  refine Av (v:=(pP b2 ((nw b)-1))) rfl (AH (j:=(nw b)-1) rfl rfl Tryz.underlying232 Tryz.sizeOf101 rfl (by omega) (by simp)) ?_
  have hx4:vb.getD ((nw b)-1) 0<4294967296:=W32.getD hN.w32 ((nw b)-1)
  refine Av rfl (AM (i:=1) (v:=(vK .u32 (vb.getD ((nw b)-1) 0))) rfl rfl Tryz.isAgg101 (BM (xs:=vb) (j:=((nw b)-1)) (by omega))) (Av rfl (Az (c:=((vb.getD ((nw b)-1) 0:Nat):Int)) rfl Tryz.underlying101 Tryz.underlying45 (Ba (by omega))) (Av rfl (GH (c:=((top/(vb.getD ((nw b)-1) 0):Nat):Int)) rfl rfl (by omega) (KO (a:=top) (b:=vb.getD ((nw b)-1) 0) (by omega))) (Bc rfl (Bc rfl (Bc rfl ?_)))))
  refine Av rfl (BS (c:=(((nw b)-1:Nat):Int)) rfl rfl (Cm (a:=nw b) (b:=1) (by omega) (by omega))) (Av (v:=(pP b2 ((nw b)-1))) rfl (AH (j:=(nw b)-1) rfl rfl Tryz.underlying232 Tryz.sizeOf101 rfl (by omega) (by simp)) ?_)
  have hx5:vb.getD ((nw b)-1) 0<4294967296:=W32.getD hN.w32 ((nw b)-1)
  refine Av rfl (AM (i:=1) (v:=(vK .u32 (vb.getD ((nw b)-1) 0))) rfl rfl Tryz.isAgg101 (BM (xs:=vb) (j:=((nw b)-1)) (by omega))) (Av rfl (Az (c:=((vb.getD ((nw b)-1) 0:Nat):Int)) rfl Tryz.underlying101 Tryz.underlying45 (Ba (by omega))) (Av rfl (CF (c:=((top%(vb.getD ((nw b)-1) 0):Nat):Int)) rfl rfl (by omega) (Ie (a:=top) (b:=vb.getD ((nw b)-1) 0))) (FO rfl (FO rfl (AS.nil ?_)))))
  refine AC.subF (sL [4,5,6,7,8,9,10,12,13] rfl) (q1 (AG.label (q1 ?_)))
  refine AG.jn1 (tg λ(d:Nat)=>d<=4294967295/\(d=W/V\/d=W/V+1)) (tg λ(d:Nat)=>[(4,(Value.slice (some ⟨b3,0,none⟩) m m)),(5,(Value.slice none 0 0)),(6,(vN s)),(7,(Value.slice (some ⟨b1,0,none⟩) (nw a+1) (nw a+1))),(8,(Value.slice (some ⟨b2,0,none⟩) (nw b) (nw b+1))),(9,(vN (nw b))),(10,(vN k)),(12,(vK .u64 d))]) (tg λ(d:Nat)=>[Ah b3 101 (Ao qs),Ah b2 101 (Ao vb),Ah b1 101 (Ao us)]) ?_ ?_
  ·skip
   refine AG.block ?_
   refine AG.lp2 (tg λ(d:Nat) (r:Nat)=>IH V W (vb.getD (nw b-1) 0) top d r/\r<8589934592/\d<8589934593) (tg λ(d:Nat) (r:Nat)=>[(4,(Value.slice (some ⟨b3,0,none⟩) m m)),(5,(Value.slice none 0 0)),(6,(vN s)),(7,(Value.slice (some ⟨b1,0,none⟩) (nw a+1) (nw a+1))),(8,(Value.slice (some ⟨b2,0,none⟩) (nw b) (nw b+1))),(9,(vN (nw b))),(10,(vN k)),(12,(vK .u64 d)),(13,(vK .u64 r))]) (tg λ(d:Nat) (r:Nat)=>[Ah b3 101 (Ao qs),Ah b2 101 (Ao vb),Ah b1 101 (Ao us)]) (tg λ(d:Nat) (r:Nat)=>d) (top/vb.getD (nw b-1) 0) (top%vb.getD (nw b-1) 0) (⟨hG0,by have:=Nat.mod_lt top (show vb.getD (nw b-1) 0>0 by omega);omega,Nat.div_lt_of_lt_mul (by omega)⟩) (sF rfl) sr (λd r hJ=>?_)
   obtain ⟨hG,hr2,hd2⟩:=hJ
   refine AG.seq (q4 (AO rfl (AJ (HX (c:=(decide (r<=4294967295))) rfl rfl (Vy (a:=r) (b:=4294967295))) rfl (AF.nil (AC.subF (sL [4,5,6,7,8,9,10,12,13,81] rfl) ?_)))))
   refine AC.then_ ?_
   refine AG.cond rfl (λhc1=>?_) (λhc1=>?_)
   ·replace hc1:=of_decide_eq_true hc1
    refine AG.skip (AC.then_ (AG.block (AG.seq (AG.seq ?_))))
    by_cases hsp:d<=4294967295
    ·skip
     have hv2:=hN.w32.getD (nw b-2)
     have hml:=KY (a:=d) (b:=vb.getD (nw b-2) 0) (by omega) hv2
     refine Cq [(0,true),(1,true),(2,true),(3,true),(4,true),(5,true),(6,true),(7,true),(8,true),(9,true),(10,true),(11,true),(12,true),(13,true),(14,true),(15,true),(16,true),(17,true),(18,true),(19,true),(20,true),(21,true),(22,true),(23,true)] sr (Bc rfl (Av rfl (HX (c:=true) rfl rfl (Vy.trans (decide_eq_true hsp))) (Bc rfl (AS.pas (v:=(vK .u64 d)) rfl (AB rfl) (A9 rfl) rfl rfl (AS.pas (v:=(Value.slice (some ⟨b2,0,none⟩) (nw b) (nw b+1))) rfl (AB rfl) (A9 rfl) rfl rfl ?_)))))
     refine AS.pas (v:=(vN (nw b))) rfl (AB rfl) (A9 rfl) rfl rfl (AS.pas (v:=(vN ((nw b)-2))) rfl (AB rfl) (BS (c:=(((nw b)-2:Nat):Int)) rfl rfl (Cm (a:=nw b) (b:=2) (by omega) (by omega))) rfl rfl (AS.pas (v:=(pP b2 ((nw b)-2))) rfl (AB rfl) (AH (j:=(nw b)-2) rfl rfl Tryz.underlying232 Tryz.sizeOf101 rfl (by omega) (by simp)) rfl rfl ?_))
     have hx6:vb.getD ((nw b)-2) 0<4294967296:=W32.getD hN.w32 ((nw b)-2)
     refine AS.pas (v:=(vK .u32 (vb.getD ((nw b)-2) 0))) rfl (AB rfl) (AM (i:=1) (v:=(vK .u32 (vb.getD ((nw b)-2) 0))) rfl rfl Tryz.isAgg101 (BM (xs:=vb) (j:=((nw b)-2)) (by omega))) rfl rfl (AS.pas (v:=(vK .u64 (vb.getD ((nw b)-2) 0))) rfl (AB rfl) (Az (c:=((vb.getD ((nw b)-2) 0:Nat):Int)) rfl Tryz.underlying101 Tryz.underlying45 (Ba (by omega))) rfl rfl (AS.pas (v:=(vK .u64 (d*(vb.getD ((nw b)-2) 0)))) rfl (AB rfl) (Bq (c:=((d*(vb.getD ((nw b)-2) 0):Nat):Int)) rfl rfl (FN (a:=d) (b:=vb.getD ((nw b)-2) 0) (by omega))) rfl rfl (AS.pas (v:=(vK .u64 r)) rfl (AB rfl) (A9 rfl) rfl rfl (AS.pas (v:=(vK .u64 (r*4294967296))) rfl (AB rfl) (Gx (s:=32) rfl rfl rfl (by decide) (Ge (s:=32) (by omega))) rfl rfl (AS.pas (v:=(Value.slice (some ⟨b1,0,none⟩) (nw a+1) (nw a+1))) rfl (AB rfl) (A9 rfl) rfl rfl ?_)))))
     refine AS.pas (v:=(vN k)) rfl (AB rfl) (A9 rfl) rfl rfl (AS.pas (v:=(vN (nw b))) rfl (AB rfl) (A9 rfl) rfl rfl (AS.pas (v:=(vN (k+(nw b)))) rfl (AB rfl) (AX (c:=((k+(nw b):Nat):Int)) rfl rfl (Ab (a:=k) (b:=nw b) (by omega))) rfl rfl (AS.pas (v:=(vN ((k+(nw b))-2))) rfl (AB rfl) (BS (c:=(((k+(nw b))-2:Nat):Int)) rfl rfl (Cm (a:=k+(nw b)) (b:=2) (by omega) (by omega))) rfl rfl (AS.pas (v:=(pP b1 ((k+(nw b))-2))) rfl (AB rfl) (AH (j:=(k+(nw b))-2) rfl rfl Tryz.underlying232 Tryz.sizeOf101 rfl (by omega) (by simp)) rfl rfl ?_))))
     have hx7:us.getD ((k+(nw b))-2) 0<4294967296:=W32.getD huw ((k+(nw b))-2)
     refine AS.pas (v:=(vK .u32 (us.getD ((k+(nw b))-2) 0))) rfl (AB rfl) (AM (i:=2) (v:=(vK .u32 (us.getD ((k+(nw b))-2) 0))) rfl rfl Tryz.isAgg101 (BM (xs:=us) (j:=((k+(nw b))-2)) (by omega))) rfl rfl (AS.pas (v:=(vK .u64 (us.getD ((k+(nw b))-2) 0))) rfl (AB rfl) (Az (c:=((us.getD ((k+(nw b))-2) 0:Nat):Int)) rfl Tryz.underlying101 Tryz.underlying45 (Ba (by omega))) rfl rfl (AS.pas (v:=(vK .u64 (r*4294967296+us.getD (k+nw b-2) 0))) rfl (AB rfl) (I8 (c:=((r*4294967296+us.getD (k+nw b-2) 0:Nat):Int)) rfl rfl (Jn (by omega) (by omega) (((Nat.or_comm _ _).trans ((HZ (s:=32) (by omega)).trans (Nat.add_comm _ _)))))) rfl rfl (AS.pas (v:=(Value.bool (decide ((d*(vb.getD ((nw b)-2) 0))<=(r*4294967296+us.getD (k+nw b-2) 0))))) rfl (AB rfl) (HX (c:=(decide ((d*(vb.getD ((nw b)-2) 0))<=(r*4294967296+us.getD (k+nw b-2) 0)))) rfl rfl (Vy (a:=d*(vb.getD ((nw b)-2) 0)) (b:=r*4294967296+us.getD (k+nw b-2) 0))) rfl rfl (Av (v:=(Value.bool (decide ((d*(vb.getD ((nw b)-2) 0))<=(r*4294967296+us.getD (k+nw b-2) 0))))) rfl (Aj rfl rfl) (AS.nil ?_)))))
     refine AC.subF (sL [4,5,6,7,8,9,10,12,13,105] rfl) (AC.then_ ?_)
     refine AG.cond rfl (λhc2=>?_) (λhc2=>?_)
     ·replace hc2:=of_decide_eq_true hc2
      have hg:=LD hN hWin hG (.inr ⟨hsp,hc2⟩)
      exact AG.exit (AC.then_exit (AC.in_exit_ne rfl (AC.round2_exit (AC.in_exit (AC.join1 d (hg) (sF rfl) sr)))))
     ·replace hc2:=of_decide_eq_false hc2
      obtain ⟨hng1,hng2⟩:=Ki hN hWin hG (λh=>hc2 h.2)
      refine AG.skip (q2 (AO rfl (AJ (BS (c:=((d-1:Nat):Int)) rfl rfl (IF (a:=d) (b:=1) (by omega) (by omega))) rfl (AK rfl (AF.nil ?_)))))
      refine AC.subF (sL [4,5,6,7,8,9,10,12,13] rfl) (AC.then_ (AG.region (AO rfl (AO rfl (AO rfl ?_)))))
      refine AJ (BS (c:=(((nw b)-1:Nat):Int)) rfl rfl (Cm (a:=nw b) (b:=1) (by omega) (by omega))) rfl (AJ (v:=(pP b2 ((nw b)-1))) (AH (j:=(nw b)-1) rfl rfl Tryz.underlying232 Tryz.sizeOf101 rfl (by omega) (by simp)) rfl ?_)
      have hx8:vb.getD ((nw b)-1) 0<4294967296:=W32.getD hN.w32 ((nw b)-1)
      refine AJ (AM (i:=1) (v:=(vK .u32 (vb.getD ((nw b)-1) 0))) rfl rfl Tryz.isAgg101 (BM (xs:=vb) (j:=((nw b)-1)) (by omega))) rfl (AJ (Az (c:=((vb.getD ((nw b)-1) 0:Nat):Int)) rfl Tryz.underlying101 Tryz.underlying45 (Ba (by omega))) rfl (AJ (AX (c:=((r+(vb.getD ((nw b)-1) 0):Nat):Int)) rfl rfl (De (a:=r) (b:=vb.getD ((nw b)-1) 0) (by omega))) rfl (AK rfl (AF.nil (AC.subF (sL [4,5,6,7,8,9,10,12,13] rfl) ?_)))))
      exact AC.in_normal (AC.round2 (d-1) (r+vb.getD (nw b-1) 0) (⟨hng1,by omega,by omega⟩) (by omega) (sF rfl) sr)
    ·skip
     obtain ⟨hng1,hng2⟩:=Ki hN hWin hG (λh=>hsp h.1)
     refine Cq [(0,true),(1,true),(2,true),(3,true),(4,true),(5,true),(6,true),(7,true),(8,true),(9,true),(10,true),(11,true),(12,true),(13,true),(14,true),(15,true),(16,true),(17,true),(18,true),(19,true),(20,true),(21,true),(22,true),(23,true)] sr (Bc rfl (Av rfl (HX (c:=false) rfl rfl (Vy.trans (decide_eq_false hsp))) (Bc rfl (AS.skp rfl (AP rfl) rfl rfl (AS.skp rfl (AP rfl) rfl rfl ?_)))))
     refine AS.skp rfl (AP rfl) rfl rfl (AS.skp rfl (AP rfl) rfl rfl (AS.skp rfl (AP rfl) rfl rfl (AS.skp rfl (AP rfl) rfl rfl (AS.skp rfl (AP rfl) rfl rfl (AS.skp rfl (AP rfl) rfl rfl ?_)))))
     refine AS.skp rfl (AP rfl) rfl rfl (AS.skp rfl (AP rfl) rfl rfl (AS.skp rfl (AP rfl) rfl rfl (AS.skp rfl (AP rfl) rfl rfl (AS.skp rfl (AP rfl) rfl rfl (AS.skp rfl (AP rfl) rfl rfl ?_)))))
     refine AS.skp rfl (AP rfl) rfl rfl (AS.skp rfl (AP rfl) rfl rfl (AS.skp rfl (AP rfl) rfl rfl (AS.skp rfl (AP rfl) rfl rfl (AS.skp rfl (AP rfl) rfl rfl (AS.skp rfl (AP rfl) rfl rfl ?_)))))
     refine Av (v:=(Value.bool false)) rfl (AV rfl rfl) (AS.nil (AC.subF (sL [4,5,6,7,8,9,10,12,13,105] rfl) (AC.then_ (AG.cond_false rfl (AG.skip ?_)))))
     refine q2 (AO rfl (AJ (BS (c:=((d-1:Nat):Int)) rfl rfl (IF (a:=d) (b:=1) (by omega) (by omega))) rfl (AK rfl (AF.nil (AC.subF (sL [4,5,6,7,8,9,10,12,13] rfl) ?_)))))
     refine AC.then_ (AG.region (AO rfl (AO rfl (AO rfl (AJ (BS (c:=(((nw b)-1:Nat):Int)) rfl rfl (Cm (a:=nw b) (b:=1) (by omega) (by omega))) rfl ?_)))))
     refine AJ (v:=(pP b2 ((nw b)-1))) (AH (j:=(nw b)-1) rfl rfl Tryz.underlying232 Tryz.sizeOf101 rfl (by omega) (by simp)) rfl ?_
     have hx9:vb.getD ((nw b)-1) 0<4294967296:=W32.getD hN.w32 ((nw b)-1)
     refine AJ (AM (i:=1) (v:=(vK .u32 (vb.getD ((nw b)-1) 0))) rfl rfl Tryz.isAgg101 (BM (xs:=vb) (j:=((nw b)-1)) (by omega))) rfl (AJ (Az (c:=((vb.getD ((nw b)-1) 0:Nat):Int)) rfl Tryz.underlying101 Tryz.underlying45 (Ba (by omega))) rfl (AJ (AX (c:=((r+(vb.getD ((nw b)-1) 0):Nat):Int)) rfl rfl (De (a:=r) (b:=vb.getD ((nw b)-1) 0) (by omega))) rfl (AK rfl (AF.nil (AC.subF (sL [4,5,6,7,8,9,10,12,13] rfl) ?_)))))
     exact AC.in_normal (AC.round2 (d-1) (r+vb.getD (nw b-1) 0) (⟨hng1,by omega,by omega⟩) (by omega) (sF rfl) sr)
   ·replace hc1:=of_decide_eq_false hc1
    have hg:=LD hN hWin hG (.inl (by omega))
    exact AG.exit (AC.then_exit (AC.round2_exit (AC.in_exit (AC.join1 d (hg) (sF rfl) sr))))
  ·intro d hJ
   obtain ⟨hdb,hdq⟩:=hJ
   refine q1 (q4 (AO rfl (AO rfl (AO rfl (AO rfl ?_)))))
   refine AJ (AX (c:=((k+(nw b):Nat):Int)) rfl rfl (Ab (a:=k) (b:=nw b) (by omega))) rfl (AJ (AX (c:=(((k+(nw b))+1:Nat):Int)) rfl rfl (Ab (a:=k+(nw b)) (b:=1) (by omega))) rfl (AJ (v:=(Value.slice (some ⟨b1,k,none⟩) (((k+(nw b))+1)-k) ((nw a+1)-k))) (M_ (i:=k) (m:=(k+(nw b))+1) rfl rfl rfl Tryz.underlying232 Tryz.sizeOf101 (by omega) (by omega) (by omega) (by simp)) rfl (AF.retell (k:=122) (u:=(Value.slice (some ⟨b1,k,none⟩) (nw b+1) ((nw a+1)-k))) rfl (by rw [show k+nw b+1-k=nw b+1 by omega]) (AO rfl (AO rfl ?_)))))
   refine AF.callM (v:=(Value.bool (decide (val us<d*val (vb.take (nw b))*4294967296^k)))) (i:=2) (cs':=Ao (Cg (nw a+1) (val us+(if val us<d*val (vb.take (nw b))*4294967296^k then 4294967296^(k+nw b+1) else 0)-d*val (vb.take (nw b))*4294967296^k))) (L':=[Ah b3 101 (Ao qs),Ah b2 101 (Ao vb),Ah b1 101 (Ao (Cg (nw a+1) (val us+(if val us<d*val (vb.take (nw b))*4294967296^k then 4294967296^(k+nw b+1) else 0)-d*val (vb.take (nw b))*4294967296^k)))]) (AN rfl) (Aq (args:=[(Value.slice (some ⟨b1,k,none⟩) (nw b+1) ((nw a+1)-k)),(Value.slice (some ⟨b2,0,none⟩) (nw b) (nw b+1)),(vK .u64 d)]) rfl rfl Tryz.call241) rfl (λw hw=>VZ _ _ k (nw b) (nw a+1) _ _ d us vb huw hul hN.w32 (by omega) (by omega) (by omega) (by omega) hWin.fits ((hw.apart (i:=1) (j:=2) (by decide) rfl rfl)) w (hw.get (i:=2) rfl) (hw.get (i:=1) rfl)) (λd hd=>by cases hd<;>exact (Ad rfl)) rfl (AF.nil (AC.subF (sL [4,5,6,7,8,9,10,12,125] rfl) (AC.then_ ?_)))
   refine AG.jn1 (tg λ(us2:List Nat)=>us2.length=nw a+1/\W32 us2/\val us2=val us-W/V*V*4294967296^k) (tg λ(us2:List Nat)=>[(4,(Value.slice (some ⟨b3,0,none⟩) m m)),(5,(Value.slice none 0 0)),(6,(vN s)),(7,(Value.slice (some ⟨b1,0,none⟩) (nw a+1) (nw a+1))),(8,(Value.slice (some ⟨b2,0,none⟩) (nw b) (nw b+1))),(9,(vN (nw b))),(10,(vN k)),(12,(vK .u64 (W/V)))]) (tg λ(us2:List Nat)=>[Ah b3 101 (Ao qs),Ah b2 101 (Ao vb),Ah b1 101 (Ao us2)]) ?_ ?_
   ·skip
    refine AG.cond rfl (λhc3=>?_) (λhc3=>?_)
    ·replace hc3:=of_decide_eq_true hc3
     have hP:4294967296^(k+nw b+1)<=4294967296^(nw a+1):=Nat.pow_le_pow_right (by omega) (by omega)
     rw [hN.take] at hc3
     obtain ⟨hde,hdS⟩:=PY (vb:=vb) hWin hdq hc3
     have hXP:V*4294967296^k<=4294967296^(k+nw b+1):=Nat.le_trans (Nat.mul_le_mul_right _ (Nat.le_of_lt hN.high)) (by rw [<-Nat.pow_add];exact Nat.pow_le_pow_right (by omega) (by omega))
     have hqle:=Pu (vb:=vb) hWin
     have hfit:=hWin.fits
     have hd1:1<=d:=by rw [hde];exact Nat.le_add_left _ _
     have hU1:val (Cg (nw a+1) (val us+(if val us<d*val (vb.take (nw b))*4294967296^k then 4294967296^(k+nw b+1) else 0)-d*val (vb.take (nw b))*4294967296^k))=val us+4294967296^(k+nw b+1)-d*V*4294967296^k:=by rw [hN.take,if_pos hc3,E9 _ _ (by omega)]
     have hU1lt:val (Cg (nw a+1) (val us+(if val us<d*val (vb.take (nw b))*4294967296^k then 4294967296^(k+nw b+1) else 0)-d*val (vb.take (nw b))*4294967296^k))<4294967296^(k+nw b+1):=by rw [hU1];omega
     refine q4 (AO rfl (AJ (BS (c:=((d-1:Nat):Int)) rfl rfl (IF (a:=d) (b:=1) (by omega) (by omega))) rfl (AK rfl (q3 (sL [4,5,6,7,8,9,10,12] rfl) (AK rfl ?_)))))
     refine AF.nil (q1 (q4 (AO rfl (AJ (v:=(vN (nw b))) (AI rfl Tryz.underlying232) rfl (AO rfl ?_)))))
     refine AF.nil (AC.then_ (AG.block ?_))
     refine AG.lp3 (tg λ(i:Nat) (os:List Nat) (c:Nat)=>i<=nw b/\os.length=nw a+1/\W32 os/\c<=1/\(∀j,k+nw b+1<=j->os.getD j 0=0)/\val os+c*4294967296^(k+i)=(val us+4294967296^(k+nw b+1)-d*V*4294967296^k)+val (vb.take i)*4294967296^k) (tg λ(i:Nat) (os:List Nat) (c:Nat)=>[(4,(Value.slice (some ⟨b3,0,none⟩) m m)),(5,(Value.slice none 0 0)),(6,(vN s)),(7,(Value.slice (some ⟨b1,0,none⟩) (nw a+1) (nw a+1))),(8,(Value.slice (some ⟨b2,0,none⟩) (nw b) (nw b+1))),(9,(vN (nw b))),(10,(vN k)),(12,(vK .u64 (d-1))),(128,(Value.slice (some ⟨b2,0,none⟩) (nw b) (nw b+1))),(129,(vN (nw b))),(130,(vN i)),(14,(vK .u32 c))]) (tg λ(i:Nat) (os:List Nat) (c:Nat)=>[Ah b3 101 (Ao qs),Ah b2 101 (Ao vb),Ah b1 101 (Ao os)]) (tg λ(i:Nat) (os:List Nat) (c:Nat)=>nw b-i) 0 (Cg (nw a+1) (val us+(if val us<d*val (vb.take (nw b))*4294967296^k then 4294967296^(k+nw b+1) else 0)-d*val (vb.take (nw b))*4294967296^k)) 0 (⟨Nat.zero_le _,Bk _ _,D1 _ _,by omega,JC hU1lt,by rw [hU1];simp [val]⟩) (sF rfl) sr (λi os c hJ=>?_)
     obtain ⟨hi,hl,hw32,hcc,hz,hv⟩:=hJ
     refine q4 (AJ (Af (c:=(decide (i<(nw b)))) rfl rfl (DL (a:=i) (b:=nw b))) rfl (AF.nil (q1 ?_)))
     refine AG.cond rfl (λhc4=>?_) (λhc4=>?_)
     ·replace hc4:=of_decide_eq_true hc4
      refine AG.skip (q1 (AG.block (q4 (AO rfl (AJ (v:=(pP b2 i)) (AH (j:=i) rfl rfl Tryz.underlying232 Tryz.sizeOf101 rfl (by omega) (by simp)) rfl ?_)))))
      have hx10:vb.getD i 0<4294967296:=W32.getD hN.w32 i
      refine AJ (AM (i:=1) (v:=(vK .u32 (vb.getD i 0))) rfl rfl Tryz.isAgg101 (BM (xs:=vb) (j:=i) (by omega))) rfl (AK rfl (AK rfl (AF.nil (AC.subF (sL [4,5,6,7,8,9,10,12,128,129,130,14,15,16] rfl) (AC.then_ ?_)))))
      refine AG.region (AO rfl (AO rfl (AO rfl (AJ (AX (c:=((k+i:Nat):Int)) rfl rfl (Ab (a:=k) (b:=i) (by omega))) rfl (AO rfl ?_)))))
      refine AO rfl (AO rfl (AJ (AX (c:=((k+i:Nat):Int)) rfl rfl (Ab (a:=k) (b:=i) (by omega))) rfl (AJ (v:=(pP b1 (k+i))) (AH (j:=k+i) rfl rfl Tryz.underlying232 Tryz.sizeOf101 rfl (by omega) (by simp)) rfl ?_)))
      have hx11:os.getD (k+i) 0<4294967296:=W32.getD hw32 (k+i)
      refine AJ (AM (i:=2) (v:=(vK .u32 (os.getD (k+i) 0))) rfl rfl Tryz.isAgg101 (BM (xs:=os) (j:=(k+i)) (by omega))) rfl (AO rfl (AO rfl (BU Tryz.call200 (Kw (os.getD (k+i) 0) (vb.getD i 0) c (by omega) (by omega) (by omega)) rfl (AO rfl (AJ (AT (v:=(vK .u32 (((os.getD (k+i) 0)+(vb.getD i 0)+c)%4294967296))) rfl rfl) rfl ?_)))))
      refine AJ (AT (v:=(vK .u32 (((os.getD (k+i) 0)+(vb.getD i 0)+c)/4294967296))) rfl rfl) rfl (AJ (v:=(pP b1 (k+i))) (AH (j:=k+i) rfl rfl Tryz.underlying232 Tryz.sizeOf101 rfl (by omega) (by simp)) rfl (AF.store' (i:=2) (off:=(k+i)) (vs:=[(vK .u32 (((os.getD (k+i) 0)+(vb.getD i 0)+c)%4294967296))]) (cs':=Ao (os.set (k+i) (((os.getD (k+i) 0)+(vb.getD i 0)+c)%4294967296))) (L':=[Ah b3 101 (Ao qs),Ah b2 101 (Ao vb),Ah b1 101 (Ao (os.set (k+i) (((os.getD (k+i) 0)+(vb.getD i 0)+c)%4294967296)))]) (AN rfl) rfl rfl rfl rfl rfl Tryz.sizeOf101 rfl (Ch (BV _) (by omega)) (CI (by omega)) rfl (AK rfl (AF.nil (AC.subF (sL [4,5,6,7,8,9,10,12,128,129,130,14] rfl) ?_)))))
      refine AC.in_normal (AC.then_ (AG.region (AJ (AX (c:=((i+1:Nat):Int)) rfl rfl (Ab (a:=i) (b:=1) (by omega))) rfl (AO rfl (AF.nil ?_)))))
      exact AC.subF (sL [4,5,6,7,8,9,10,12,128,129,130,14] rfl) (AC.round3 (i+1) (os.set (k+i) ((os.getD (k+i) 0+vb.getD i 0+c)%4294967296)) ((os.getD (k+i) 0+vb.getD i 0+c)/4294967296) (⟨by omega,by rw [List.length_set];exact hl,W32.set hw32 (by omega) _,by omega,Fm hz (by omega),Rw hl (by omega) hv⟩) (by omega) (sF rfl) sr)
     ·replace hc4:=of_decide_eq_false hc4
      have hib:i=nw b:=by omega
      have hv3:=hv
      rw [hib,hN.take] at hv3
      have hbk:=RP (T:=val us-W/V*V*4294967296^k) (P:=4294967296^(k+nw b+1)) hl (by omega) hw32 hcc hz rfl (hv3.trans (PP hdS hqle hfit hc3 hXP)) (Nat.lt_of_le_of_lt (Nat.sub_le _ _) hfit)
      refine AG.exit (AC.then_exit (AC.round3_exit (AC.in_exit (AC.then_ (AG.region ?_)))))
      refine AO rfl (AO rfl (AO rfl (AJ (AX (c:=((k+(nw b):Nat):Int)) rfl rfl (Ab (a:=k) (b:=nw b) (by omega))) rfl (AJ (v:=(pP b1 (k+(nw b)))) (AH (j:=k+(nw b)) rfl rfl Tryz.underlying232 Tryz.sizeOf101 rfl (by omega) (by simp)) rfl ?_))))
      have hx12:os.getD (k+(nw b)) 0<4294967296:=W32.getD hw32 (k+(nw b))
      refine AJ (AM (i:=2) (v:=(vK .u32 (os.getD (k+(nw b)) 0))) rfl rfl Tryz.isAgg101 (BM (xs:=os) (j:=(k+(nw b))) (by omega))) rfl (AO rfl (AJ (AX (c:=(((os.getD (k+nw b) 0+c)%4294967296:Nat):Int)) rfl rfl VD) rfl (AJ (v:=(pP b1 (k+(nw b)))) (AH (j:=k+(nw b)) rfl rfl Tryz.underlying232 Tryz.sizeOf101 rfl (by omega) (by simp)) rfl (AF.store' (i:=2) (off:=(k+(nw b))) (vs:=[(vK .u32 ((os.getD (k+nw b) 0+c)%4294967296))]) (cs':=Ao (os.set (k+(nw b)) ((os.getD (k+nw b) 0+c)%4294967296))) (L':=[Ah b3 101 (Ao qs),Ah b2 101 (Ao vb),Ah b1 101 (Ao (os.set (k+(nw b)) ((os.getD (k+nw b) 0+c)%4294967296)))]) (AN rfl) rfl rfl rfl rfl rfl Tryz.sizeOf101 rfl (Ch (BV _) (by omega)) (CI (by omega)) rfl (AF.nil ?_)))))
      exact AC.subF (sL [4,5,6,7,8,9,10,12,128,129,130,14] rfl) (AC.retell (k:=12) (u:=Value.int .u64 ((W/V:Nat):Int)) rfl (by rw [hde,Nat.add_sub_cancel]) (AC.join1 (os.set (k+(nw b)) ((os.getD (k+nw b) 0+c)%4294967296)) (⟨by rw [List.length_set];exact hl,W32.set hw32 (by omega) _,hbk⟩) (sF rfl) sr))
    ·replace hc3:=of_decide_eq_false hc3
     have hP:4294967296^(k+nw b+1)<=4294967296^(nw a+1):=Nat.pow_le_pow_right (by omega) (by omega)
     rw [hN.take] at hc3
     obtain ⟨hde,hdS⟩:=PB hN hWin hdq hc3
     have hfit:=hWin.fits
     have hU1:val (Cg (nw a+1) (val us+(if val us<d*val (vb.take (nw b))*4294967296^k then 4294967296^(k+nw b+1) else 0)-d*val (vb.take (nw b))*4294967296^k))=val us-W/V*V*4294967296^k:=by rw [hN.take,if_neg hc3,E9 _ _ (by omega)];exact hdS
     exact AG.skip (AC.retell (k:=12) (u:=Value.int .u64 ((W/V:Nat):Int)) rfl (by rw [hde]) (AC.join1 (Cg (nw a+1) (val us+(if val us<d*val (vb.take (nw b))*4294967296^k then 4294967296^(k+nw b+1) else 0)-d*val (vb.take (nw b))*4294967296^k)) (⟨Bk _ _,D1 _ _,hU1⟩) (sF rfl) sr))
   ·intro us2 hJ
    obtain ⟨hu2l,hu2w,hu2v⟩:=hJ
    refine AC.then_ (AG.region (AO rfl (AO rfl (AO rfl (AJ (Az (c:=((W/V:Nat):Int)) rfl Tryz.underlying45 Tryz.underlying101 (CY (by exact hq32))) rfl ?_)))))
    refine AJ (v:=(pP b3 k)) (AH (j:=k) rfl rfl Tryz.underlying232 Tryz.sizeOf101 rfl (by omega) (by simp)) rfl (AF.store' (i:=0) (off:=k) (vs:=[(vK .u32 (W/V))]) (cs':=Ao (qs.set k (W/V))) (L':=[Ah b3 101 (Ao (qs.set k (W/V))),Ah b2 101 (Ao vb),Ah b1 101 (Ao us2)]) (AN rfl) rfl rfl rfl rfl rfl Tryz.sizeOf101 rfl (Ch (BV _) (by omega)) (CI (by omega)) rfl (AF.nil (AC.subF (sL [4,5,6,7,8,9,10,12] rfl) (AC.scope_normal (AC.in_normal ?_)))))
    refine AC.then_ (AG.region (AO rfl (AJ (BS (c:=(((k:Nat):Int)-1)) rfl rfl (BN (by omega) (by omega))) rfl (AK rfl (AF.nil ?_)))))
    refine AC.subF (sL [4,5,6,7,8,9,10,12] rfl) ?_
    have hdd:=Ov hN hWin hu2v hAeq hql (by omega) (hqz k (by omega))
    exact AC.round3 k us2 (qs.set k (W/V)) (⟨by omega,hu2l,hu2w,by rw [List.length_set];exact hql,W32.set hqw hq32 _,λj hj=>by rw [JG (by omega)];exact hqz j (by omega),hdd.1,hdd.2⟩) (by omega) (sF rfl) sr
 ·replace hc0:=of_decide_eq_false hc0
  have hk00:k0=0:=by omega
  have hlt0:=hlt
  rw [hk00,Nat.pow_zero,Nat.mul_one] at hlt0
  have hfin:=RT (a:=a) (b:=b) (s:=s) (q:=val qs) (r:=val us) hb0 (by rw [<-hV];exact hAeq) (by rw [<-hV];exact hlt0)
  refine AG.exit (AC.then_exit (AC.round3_exit (AC.in_exit (q1 (q4 ?_)))))
  refine AO rfl (AO rfl (AF.nil (AC.then_ (AG.block ?_))))
  refine AG.lp2 (tg λ(i:Nat) (us3:List Nat)=>i<=s/\us3.length=nw a+1/\W32 us3/\val us3=a%b*2^s/2^i) (tg λ(i:Nat) (us3:List Nat)=>[(4,(Value.slice (some ⟨b3,0,none⟩) m m)),(5,(Value.slice none 0 0)),(7,(Value.slice (some ⟨b1,0,none⟩) (nw a+1) (nw a+1))),(167,(vN s)),(168,(vN i))]) (tg λ(i:Nat) (us3:List Nat)=>[Ah b3 101 (Ao qs),Ah b2 101 (Ao vb),Ah b1 101 (Ao us3)]) (tg λ(i:Nat) (us3:List Nat)=>s-i) 0 us (⟨Nat.zero_le _,hul,huw,by rw [hfin.2];simp⟩) (sF rfl) sr (λi us3 hJ=>?_)
  obtain ⟨hi,hl3,hw3,hv3⟩:=hJ
  refine q4 (AJ (Af (c:=(decide (i<s))) rfl rfl (DL (a:=i) (b:=s))) rfl (AF.nil (q1 ?_)))
  refine AG.cond rfl (λhc5=>?_) (λhc5=>?_)
  ·replace hc5:=of_decide_eq_true hc5
   refine AG.skip (q1 (AG.block (AG.region (AO rfl (AF.callM (v:=(Value.tuple #[])) (i:=2) (cs':=Ao (Cg (nw a+1) (val us3/2))) (L':=[Ah b3 101 (Ao qs),Ah b2 101 (Ao vb),Ah b1 101 (Ao (Cg (nw a+1) (val us3/2)))]) (AN rfl) (Aq (args:=[(Value.slice (some ⟨b1,0,none⟩) (nw a+1) (nw a+1))]) rfl rfl Tryz.call242) rfl (λw hw=>VP _ (nw a+1) _ us3 hw3 hl3 (by omega) w (hw.get (i:=2) rfl)) (λd hd=>by cases hd<;>exact (Ad rfl)) rfl ?_)))))
   refine AF.nil (AC.subF (sL [4,5,7,167,168] rfl) (AC.in_normal (AC.then_ (AG.region (AJ (AX (c:=((i+1:Nat):Int)) rfl rfl (Ab (a:=i) (b:=1) (by omega))) rfl ?_)))))
   refine AO rfl (AF.nil (AC.subF (sL [4,5,7,167,168] rfl) ?_))
   have hb3:val us3/2<4294967296^(nw a+1):=Nat.lt_of_le_of_lt (Nat.div_le_self _ _) (by have:=Gt hw3;rw [hl3] at this;exact this)
   exact AC.round2 (i+1) (Cg (nw a+1) (val us3/2)) (⟨by omega,Bk _ _,D1 _ _,by rw [E9 _ _ hb3,hv3,Nat.div_div_eq_div_mul,<-Nat.pow_succ]⟩) (by omega) (sF rfl) sr
  ·replace hc5:=of_decide_eq_false hc5
   have his:i=s:=by omega
   have hr:val us3=a%b:=by rw [hv3,his,Nat.mul_div_cancel _ (Nat.pow_pos (by omega))]
   have hr1:=Hq hw3 hl3 hr
   have hq1:=Hq hqw hql hfin.1
   refine AG.exit (AC.then_exit (AC.round2_exit (AC.in_exit (q2 (AO rfl ?_)))))
   refine AO rfl (AK rfl (AK rfl (AF.nil (AC.subF (sL [4,5,7,167,168] rfl) (AC.then_ ?_)))))
   exact AG.ret (Ct rfl (Ai (v:=(Value.slice (some ⟨b3,0,none⟩) m m)) rfl) (Ai (v:=(Value.slice (some ⟨b1,0,none⟩) (nw a+1) (nw a+1))) rfl) (λw hw=>⟨b3,b1,by rw [hm],hw.out,hw.fresh (i:=0) rfl,hw.fresh (i:=2) rfl,(hw.apart (i:=0) (j:=2) (by decide) rfl rfl),by rw [<-hm,<-hq1];exact hw.get (i:=0) rfl,by rw [<-hr1];exact hw.get (i:=2) rfl⟩))
end
end Go.Proofs.YtfbomiejpbchdaaGreat
