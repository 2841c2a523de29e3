import Derived.Test.YtfbomiejpbchdaaGreatDoorPart06
import Derived.Test.YtfbomiejpbchdaaGreatDoorPart15
import Derived.Test.YtfbomiejpbchdaaGreatDoorPart16
namespace Go.Proofs.YtfbomiejpbchdaaGreatDoor
open Go Go.RowKit Go.Proofs.Tryz
set_option linter.unusedVariables false
set_option linter.unusedSimpArgs false
section
set_option maxRecDepth 100000
theorem MN {R P D Q X:Nat} (h1:D=Q+X) (h2:Q<=R) (h3:R<P) (h4:R<D) (h5:X<=P):R+P-D+X=R-Q+P:=by omega
theorem S3 (a b p q c1 c2:Nat) (ha:nw a<=1099511627776) (hb2:2<=nw b) (hba:nw b<=nw a) (w:World) (hp:w.heap[p]?=some (.cells (Aj (Aw a)).toArray 83 (0,0))) (hq:w.heap[q]?=some (.cells (Aj (Aw b)).toArray 83 (0,0))):Calls prog 141 #[(Value.slice (some ⟨p,0,none⟩) (nw a) c1),(Value.slice (some ⟨q,0,none⟩) (nw b) c2)] w (λe w'=>∃b1 b2,e=.returned (.tuple #[.slice (some ⟨b1,0,none⟩) (nw a+1-nw b) (nw a+1-nw b),.slice (some ⟨b2,0,none⟩) (nw a+1) (nw a+1)])/\EU w.heap.size w w'/\w.heap.size<=b1/\w.heap.size<=b2/\b1≠b2/\w'.heap[b1]?=some (.cells (Aj (CN (nw a+1-nw b) (a/b))).toArray 83 (0,0))/\w'.heap[b2]?=some (.cells (Aj (CN (nw a+1) (a%b))).toArray 83 (0,0))):=by
 have hla:=B_ a
 have hlb:=B_ b
 have hb0:0<b:=Nat.pos_of_ne_zero (λh=>by rw [h,KA] at hb2;omega)
 obtain ⟨s,hs⟩:∃s,s=32-bl ((AL b).getD (nw b-1) 0):=⟨_,rfl⟩
 obtain ⟨hs32,hlow,hhigh⟩:=UJ Z hs
 obtain ⟨m,hm⟩:∃m,m=nw a+1-nw b:=⟨_,rfl⟩
 obtain ⟨V,hV⟩:∃V,V=b*2^s:=⟨_,rfl⟩
 obtain ⟨vb,hvb⟩:∃vb,vb=CN (nw b+1) (b*2^s):=⟨_,rfl⟩
 have hbig:b*2^s<4294967296^(nw b+1):=Nat.lt_of_lt_of_le hhigh (Nat.pow_le_pow_right Z Z)
 have hN:MT vb (nw b) V:=⟨by rw [hvb];exact DP _ _,by rw [hvb];exact Bb _ _,hb2,by rw [hvb,hV];exact EK _ _ hbig,by rw [hV];exact hlow,by rw [hV];exact hhigh⟩
 have hst:=Mn rfl Z hs32 hlow hm hba
 have hA:val (CN (nw a+1) (a*2^s))=a*2^s:=EK _ _ (by rw [Nat.pow_succ];exact Nat.mul_lt_mul_of_lt_of_le (Bt a) (Nat.le_trans (Nat.pow_le_pow_right Z (show s<=32 by omega)) (by decide)) Z)
 have hvlen:=hN.len
 have htop:=hN.top
 have htw:=(Lh (b:=b) Z).2.2
 refine Ac (args:=[(Value.slice (some ⟨p,0,none⟩) (nw a) c1),(Value.slice (some ⟨q,0,none⟩) (nw b) c2)]) func141 O O (Ad O) (AF.subF (sL [0,1] O) (q4 (AK O (AK O (AE.nil ?_)))))
 refine q2 (AO O (AO O (AH (v:=(vN (nw b))) (AG O underlying187) O (AH (Bo (c:=(((nw b)-1:Nat):Int)) O O (CJ (a:=nw b) (b:=1) Z Z)) O (AH (v:=(pP q ((nw b)-1))) (AI (j:=(nw b)-1) O O underlying187 sizeOf83 O Z (by simp)) O ?_)))))
 have hx1:(Aw b).getD ((nw b)-1) 0<4294967296:=W32.getD (CE b) ((nw b)-1)
 refine AH (BY (v:=(vK .u32 ((Aw b).getD ((nw b)-1) 0))) O (λw' hw=>CA.at0 (hw.oldCA (by simp) (EJ hq)) (BG (xs:=Aw b) (j:=((nw b)-1)) Z)) isAgg83) O (AE.retell (k:=22) (u:=(vK .u32 ((AL b).getD (nw b-1) 0))) O (by rw [C4 Z]) (BS call184 (TF ((AL b).getD (nw b-1) 0) Z) O (AE.retell (k:=23) (u:=(vN s)) O (by rw [hs]) (AK O (q6 (sL [0,1,4,5,6] O) ?_)))))
 refine C2 [(0,true),(1,true),(3,true),(4,true),(6,true),(7,true),(2,false),(5,false),(8,true),(9,true),(10,true)] sr (Bm O (Bm O (Bm O (Bm O (Bm O ?_)))))
 refine Ay (v:=(vN (nw b))) O (AG O underlying187) (AS.imp O (AE.callB (V:=λb1=>(Value.slice (some ⟨b1,0,none⟩) (nw a+1) (nw a+1))) (T:=83) (cs:=Aj (CN (nw a+1) (a*2^s))) (AP O) (Ao (args:=[(Value.slice (some ⟨p,0,none⟩) (nw a) c1),(vN s)]) O O call185) (λw hw=>(by have h:=IL p (nw a) c1 s (Aw a) (CE a) hla Z hs32 w (hw.old (by simp) hp);rw [Gr] at h;exact h)) O (Ad O) λb1=>AS.back (sl sr) (AS.imp O (AE.callB (V:=λb2=>(Value.slice (some ⟨b2,0,none⟩) (nw b+1) (nw b+1))) (T:=83) (cs:=Aj vb) (AP O) (Ao (args:=[(Value.slice (some ⟨q,0,none⟩) (nw b) c2),(vN s)]) O O call185) (λw hw=>(by have h:=IL q (nw b) c2 s (Aw b) (CE b) hlb Z hs32 w (hw.old (by simp) hq);rw [Gr,<-hvb] at h;exact h)) O (Ad O) λb2=>?_))))
 refine AS.back (sl (sl sr)) (Ay (v:=(Value.slice (some ⟨b2,0,none⟩) (nw b) (nw b+1))) O (Hm (m:=nw b) O O underlying187 sizeOf83 Z) (EW O (EW O (AS.nil (AC.subF (sL [1,4,5,6,7,8] O) ?_)))))
 refine q2 (AO O (AH (v:=(vN (nw b))) (AG O underlying187) O (AK O (q3 (sL [1,4,5,6,7,8,9] O) (AO O ?_)))))
 refine AH (v:=(vN (nw a+1))) (AG O underlying187) O (AO O (AH (Bo (c:=(((nw a+1)-(nw b):Nat):Int)) O O (CJ (a:=nw a+1) (b:=nw b) Z Z)) O (AE.retell (k:=38) (u:=(vN m)) O (by rw [hm]) (AE.openV (V:=λb3=>(Value.slice (some ⟨b3,0,none⟩) m m)) (T:=83) (cs:=Aj (List.replicate m 0)) (AP O) (Cx (m:=m) (c:=m) O O Z Z) O (Ad O) λb3=>AK O ?_))))
 refine q6 (sL [1,4,5,6,7,8,9] O) (q4 (AO O (AH (v:=(vN m)) (AG O underlying187) O (AH (Bo (c:=(((m:Nat):Int)-1)) O O (BK Z Z)) O (AK O ?_)))))
 refine AE.nil (AC.subF (sL [1,4,5,6,7,8,9,10] O) (AC.then_ (AF.block ?_)))
 refine AF.lp3 (tg λ(k0:Nat) (us:List Nat) (qs:List Nat)=>k0<=m/\us.length=nw a+1/\W32 us/\qs.length=m/\W32 qs/\(∀j,j<k0->qs.getD j 0=0)/\val us<V*4294967296^k0/\a*2^s=val qs*V+val us) (tg λ(k0:Nat) (us:List Nat) (qs:List Nat)=>[(4,(Value.slice (some ⟨b3,0,none⟩) m m)),(5,(Value.slice none 0 0)),(6,(vN s)),(7,(Value.slice (some ⟨b1,0,none⟩) (nw a+1) (nw a+1))),(8,(Value.slice (some ⟨b2,0,none⟩) (nw b) (nw b+1))),(9,(vN (nw b))),(10,(vI (((k0:Nat):Int)-1)))]) (tg λ(k0:Nat) (us:List Nat) (qs:List Nat)=>[Ae b3 83 (Aj qs),Ae b2 83 (Aj vb),Ae b1 83 (Aj us)]) (tg λ(k0:Nat) (us:List Nat) (qs:List Nat)=>k0) m (CN (nw a+1) (a*2^s)) (List.replicate m 0) (⟨Nat.le_refl _,Bb _ _,DP _ _,by simp,W32.zeros _,λj _=>by simp [List.getD_eq_getElem?_getD,List.getElem?_replicate];split<;>rfl,by rw [hA,hV];exact hst,by rw [hA,Di];simp⟩) (sF O) sr (λk0 us qs hJ=>?_)
 obtain ⟨hk0,hul,huw,hql,hqw,hqz,hlt,hAeq⟩:=hJ
 refine AF.seq (q4 (AO O (AH (DW (c:=(decide ((0:Int)<=(((k0:Nat):Int)-1)))) O O O) O (AE.nil (AC.subF (sL [4,5,6,7,8,9,10,44] O) ?_)))))
 refine AC.then_ ?_
 refine AF.cond O (λhc0=>?_) (λhc0=>?_)
 ·replace hc0:=of_decide_eq_true hc0
  obtain ⟨k,rfl⟩:∃k,k0=k+1:=⟨k0-1,Z⟩
  obtain ⟨top,htp⟩:∃t,t=us.getD (k+nw b) 0*4294967296+us.getD (k+nw b-1) 0:=⟨_,rfl⟩
  obtain ⟨W,hWd⟩:∃x,x=val us/4294967296^k:=⟨_,rfl⟩
  have hWin:=UU hN huw hlt
  rw [<-htp,<-hWd] at hWin
  have hu2:=huw.getD (k+nw b-2)
  have hG0:=LG hN hWin hu2
  have htb:=hWin.topb
  have hq32:=hWin.quo_lt hN.pos
  refine AF.retell (k:=10) (u:=(vN k)) O (by congr 1;omega) (AF.skip (q1 (AF.block (AF.scope (AF.seq ?_)))))
  refine C2 [(0,true),(1,true),(2,true),(3,true),(4,true),(5,true),(6,true),(7,true),(8,true),(9,true),(10,true),(11,true),(12,true),(13,true),(14,true),(15,true),(16,true),(17,true)] sr (Bm O (Bm O (Bm O (Ay O (AW (c:=((k+(nw b):Nat):Int)) O O (AZ (a:=k) (b:=nw b) Z)) (Ay (v:=(pP b1 (k+(nw b)))) O (AI (j:=k+(nw b)) O O underlying187 sizeOf83 O Z (by simp)) ?_)))))
  have hx2:us.getD (k+(nw b)) 0<4294967296:=W32.getD huw (k+(nw b))
  refine Ay O (AM (i:=2) (v:=(vK .u32 (us.getD (k+(nw b)) 0))) O O isAgg83 (BG (xs:=us) (j:=(k+(nw b))) Z)) (Ay O (Au (c:=((us.getD (k+(nw b)) 0:Nat):Int)) O underlying83 underlying53 (BT Z)) (Ay (v:=(vK .u64 (us.getD (k+nw b) 0*4294967296))) O (FT (s:=32) O O O (by decide) (Fg (s:=32) Z)) (Bm O (Bm O (Bm O ?_)))))
  refine Ay O (AW (c:=((k+(nw b):Nat):Int)) O O (AZ (a:=k) (b:=nw b) Z)) (Ay O (Bo (c:=(((k+(nw b))-1:Nat):Int)) O O (CJ (a:=k+(nw b)) (b:=1) Z Z)) (Ay (v:=(pP b1 ((k+(nw b))-1))) O (AI (j:=(k+(nw b))-1) O O underlying187 sizeOf83 O Z (by simp)) ?_))
  have hx3:us.getD ((k+(nw b))-1) 0<4294967296:=W32.getD huw ((k+(nw b))-1)
  refine Ay O (AM (i:=2) (v:=(vK .u32 (us.getD ((k+(nw b))-1) 0))) O O isAgg83 (BG (xs:=us) (j:=((k+(nw b))-1)) Z)) (Ay O (Au (c:=((us.getD ((k+(nw b))-1) 0:Nat):Int)) O underlying83 underlying53 (BT Z)) (Ay O (Hk (c:=((top:Nat):Int)) O O (H5 Z Z (((Nat.or_comm _ _).trans ((GV (s:=32) Z).trans (Nat.add_comm _ _))).trans htp.symm))) (EW O (AS.nil (AC.subF (sL [4,5,6,7,8,9,10,11] O) ?_)))))
  refine q1 (C2 [(0,true),(1,true),(2,true),(3,true),(4,true),(5,true),(6,true),(7,true),(8,true),(9,true),(10,true),(11,true),(12,true),(13,true),(14,true),(15,true),(16,true),(17,true)] sr (Bm O (Bm O (Bm O (Ay O (Bo (c:=(((nw b)-1:Nat):Int)) O O (CJ (a:=nw b) (b:=1) Z Z)) ?_)))))
  refine Ay (v:=(pP b2 ((nw b)-1))) O (AI (j:=(nw b)-1) O O underlying187 sizeOf83 O Z (by simp)) ?_
  have hx4:vb.getD ((nw b)-1) 0<4294967296:=W32.getD hN.w32 ((nw b)-1)
  refine Ay O (AM (i:=1) (v:=(vK .u32 (vb.getD ((nw b)-1) 0))) O O isAgg83 (BG (xs:=vb) (j:=((nw b)-1)) Z)) (Ay O (Au (c:=((vb.getD ((nw b)-1) 0:Nat):Int)) O underlying83 underlying53 (BT Z)) (Ay O (Fq (c:=((top/(vb.getD ((nw b)-1) 0):Nat):Int)) O O Z (IV (a:=top) (b:=vb.getD ((nw b)-1) 0) Z)) (Bm O (Bm O (Bm O ?_)))))
  refine Ay O (Bo (c:=(((nw b)-1:Nat):Int)) O O (CJ (a:=nw b) (b:=1) Z Z)) (Ay (v:=(pP b2 ((nw b)-1))) O (AI (j:=(nw b)-1) O O underlying187 sizeOf83 O Z (by simp)) ?_)
  have hx5:vb.getD ((nw b)-1) 0<4294967296:=W32.getD hN.w32 ((nw b)-1)
  refine Ay O (AM (i:=1) (v:=(vK .u32 (vb.getD ((nw b)-1) 0))) O O isAgg83 (BG (xs:=vb) (j:=((nw b)-1)) Z)) (Ay O (Au (c:=((vb.getD ((nw b)-1) 0:Nat):Int)) O underlying83 underlying53 (BT Z)) (Ay O (Bz (c:=((top%(vb.getD ((nw b)-1) 0):Nat):Int)) O O Z (HF (a:=top) (b:=vb.getD ((nw b)-1) 0))) (EW O (EW O (AS.nil ?_)))))
  refine AC.subF (sL [4,5,6,7,8,9,10,12,13] O) (q1 (AF.label (q1 ?_)))
  refine AF.jn1 (tg λ(d:Nat)=>d<=4294967295/\(d=W/V\/d=W/V+1)) (tg λ(d:Nat)=>[(4,(Value.slice (some ⟨b3,0,none⟩) m m)),(5,(Value.slice none 0 0)),(6,(vN s)),(7,(Value.slice (some ⟨b1,0,none⟩) (nw a+1) (nw a+1))),(8,(Value.slice (some ⟨b2,0,none⟩) (nw b) (nw b+1))),(9,(vN (nw b))),(10,(vN k)),(12,(vK .u64 d))]) (tg λ(d:Nat)=>[Ae b3 83 (Aj qs),Ae b2 83 (Aj vb),Ae b1 83 (Aj us)]) ?_ ?_
  ·skip
   refine AF.block ?_
   refine AF.lp2 (tg λ(d:Nat) (r:Nat)=>Gk V W (vb.getD (nw b-1) 0) top d r/\r<8589934592/\d<8589934593) (tg λ(d:Nat) (r:Nat)=>[(4,(Value.slice (some ⟨b3,0,none⟩) m m)),(5,(Value.slice none 0 0)),(6,(vN s)),(7,(Value.slice (some ⟨b1,0,none⟩) (nw a+1) (nw a+1))),(8,(Value.slice (some ⟨b2,0,none⟩) (nw b) (nw b+1))),(9,(vN (nw b))),(10,(vN k)),(12,(vK .u64 d)),(13,(vK .u64 r))]) (tg λ(d:Nat) (r:Nat)=>[Ae b3 83 (Aj qs),Ae b2 83 (Aj vb),Ae b1 83 (Aj us)]) (tg λ(d:Nat) (r:Nat)=>d) (top/vb.getD (nw b-1) 0) (top%vb.getD (nw b-1) 0) (⟨hG0,by have:=Nat.mod_lt top (show vb.getD (nw b-1) 0>0 by omega);omega,Nat.div_lt_of_lt_mul Z⟩) (sF O) sr (λd r hJ=>?_)
   obtain ⟨hG,hr2,hd2⟩:=hJ
   refine AF.seq (q4 (AO O (AH (GJ (c:=(decide (r<=4294967295))) O O (SP (a:=r) (b:=4294967295))) O (AE.nil (AC.subF (sL [4,5,6,7,8,9,10,12,13,81] O) ?_)))))
   refine AC.then_ ?_
   refine AF.cond O (λhc1=>?_) (λhc1=>?_)
   ·replace hc1:=of_decide_eq_true hc1
    refine AF.skip (AC.then_ (AF.block (AF.seq (AF.seq ?_))))
    by_cases hsp:d<=4294967295
    ·skip
     have hv2:=hN.w32.getD (nw b-2)
     have hml:=Ix (a:=d) (b:=vb.getD (nw b-2) 0) Z hv2
     refine C2 [(0,true),(1,true),(2,true),(3,true),(4,true),(5,true),(6,true),(7,true),(8,true),(9,true),(10,true),(11,true),(12,true),(13,true),(14,true),(15,true),(16,true),(17,true),(18,true),(19,true),(20,true),(21,true),(22,true),(23,true)] sr (Bm O (Ay O (GJ (c:=true) O O (SP.trans (decide_eq_true hsp))) (Bm O (AS.pas (v:=(vK .u64 d)) O (AB O) (BB O) O O (AS.pas (v:=(Value.slice (some ⟨b2,0,none⟩) (nw b) (nw b+1))) O (AB O) (BB O) O O ?_)))))
     refine AS.pas (v:=(vN (nw b))) O (AB O) (BB O) O O (AS.pas (v:=(vN ((nw b)-2))) O (AB O) (Bo (c:=(((nw b)-2:Nat):Int)) O O (CJ (a:=nw b) (b:=2) Z Z)) O O (AS.pas (v:=(pP b2 ((nw b)-2))) O (AB O) (AI (j:=(nw b)-2) O O underlying187 sizeOf83 O Z (by simp)) O O ?_))
     have hx6:vb.getD ((nw b)-2) 0<4294967296:=W32.getD hN.w32 ((nw b)-2)
     refine AS.pas (v:=(vK .u32 (vb.getD ((nw b)-2) 0))) O (AB O) (AM (i:=1) (v:=(vK .u32 (vb.getD ((nw b)-2) 0))) O O isAgg83 (BG (xs:=vb) (j:=((nw b)-2)) Z)) O O (AS.pas (v:=(vK .u64 (vb.getD ((nw b)-2) 0))) O (AB O) (Au (c:=((vb.getD ((nw b)-2) 0:Nat):Int)) O underlying83 underlying53 (BT Z)) O O (AS.pas (v:=(vK .u64 (d*(vb.getD ((nw b)-2) 0)))) O (AB O) (Bk (c:=((d*(vb.getD ((nw b)-2) 0):Nat):Int)) O O (EO (a:=d) (b:=vb.getD ((nw b)-2) 0) Z)) O O (AS.pas (v:=(vK .u64 r)) O (AB O) (BB O) O O (AS.pas (v:=(vK .u64 (r*4294967296))) O (AB O) (FT (s:=32) O O O (by decide) (Fg (s:=32) Z)) O O (AS.pas (v:=(Value.slice (some ⟨b1,0,none⟩) (nw a+1) (nw a+1))) O (AB O) (BB O) O O ?_)))))
     refine AS.pas (v:=(vN k)) O (AB O) (BB O) O O (AS.pas (v:=(vN (nw b))) O (AB O) (BB O) O O (AS.pas (v:=(vN (k+(nw b)))) O (AB O) (AW (c:=((k+(nw b):Nat):Int)) O O (AZ (a:=k) (b:=nw b) Z)) O O (AS.pas (v:=(vN ((k+(nw b))-2))) O (AB O) (Bo (c:=(((k+(nw b))-2:Nat):Int)) O O (CJ (a:=k+(nw b)) (b:=2) Z Z)) O O (AS.pas (v:=(pP b1 ((k+(nw b))-2))) O (AB O) (AI (j:=(k+(nw b))-2) O O underlying187 sizeOf83 O Z (by simp)) O O ?_))))
     have hx7:us.getD ((k+(nw b))-2) 0<4294967296:=W32.getD huw ((k+(nw b))-2)
     refine AS.pas (v:=(vK .u32 (us.getD ((k+(nw b))-2) 0))) O (AB O) (AM (i:=2) (v:=(vK .u32 (us.getD ((k+(nw b))-2) 0))) O O isAgg83 (BG (xs:=us) (j:=((k+(nw b))-2)) Z)) O O (AS.pas (v:=(vK .u64 (us.getD ((k+(nw b))-2) 0))) O (AB O) (Au (c:=((us.getD ((k+(nw b))-2) 0:Nat):Int)) O underlying83 underlying53 (BT Z)) O O (AS.pas (v:=(vK .u64 (r*4294967296+us.getD (k+nw b-2) 0))) O (AB O) (Hk (c:=((r*4294967296+us.getD (k+nw b-2) 0:Nat):Int)) O O (H5 Z Z (((Nat.or_comm _ _).trans ((GV (s:=32) Z).trans (Nat.add_comm _ _)))))) O O (AS.pas (v:=(Value.bool (decide ((d*(vb.getD ((nw b)-2) 0))<=(r*4294967296+us.getD (k+nw b-2) 0))))) O (AB O) (GJ (c:=(decide ((d*(vb.getD ((nw b)-2) 0))<=(r*4294967296+us.getD (k+nw b-2) 0)))) O O (SP (a:=d*(vb.getD ((nw b)-2) 0)) (b:=r*4294967296+us.getD (k+nw b-2) 0))) O O (Ay (v:=(Value.bool (decide ((d*(vb.getD ((nw b)-2) 0))<=(r*4294967296+us.getD (k+nw b-2) 0))))) O (Ai O O) (AS.nil ?_)))))
     refine AC.subF (sL [4,5,6,7,8,9,10,12,13,105] O) (AC.then_ ?_)
     refine AF.cond O (λhc2=>?_) (λhc2=>?_)
     ·replace hc2:=of_decide_eq_true hc2
      have hg:=JG hN hWin hG (.inr ⟨hsp,hc2⟩)
      exact AF.exit (AC.then_exit (AC.in_exit_ne O (AC.round2_exit (AC.in_exit (AC.join1 d (hg) (sF O) sr)))))
     ·replace hc2:=of_decide_eq_false hc2
      obtain ⟨hng1,hng2⟩:=IX hN hWin hG (λh=>hc2 h.2)
      refine AF.skip (q2 (AO O (AH (Bo (c:=((d-1:Nat):Int)) O O (Gd (a:=d) (b:=1) Z Z)) O (AK O (AE.nil ?_)))))
      refine AC.subF (sL [4,5,6,7,8,9,10,12,13] O) (AC.then_ (AF.region (AO O (AO O (AO O ?_)))))
      refine AH (Bo (c:=(((nw b)-1:Nat):Int)) O O (CJ (a:=nw b) (b:=1) Z Z)) O (AH (v:=(pP b2 ((nw b)-1))) (AI (j:=(nw b)-1) O O underlying187 sizeOf83 O Z (by simp)) O ?_)
      have hx8:vb.getD ((nw b)-1) 0<4294967296:=W32.getD hN.w32 ((nw b)-1)
      refine AH (AM (i:=1) (v:=(vK .u32 (vb.getD ((nw b)-1) 0))) O O isAgg83 (BG (xs:=vb) (j:=((nw b)-1)) Z)) O (AH (Au (c:=((vb.getD ((nw b)-1) 0:Nat):Int)) O underlying83 underlying53 (BT Z)) O (AH (AW (c:=((r+(vb.getD ((nw b)-1) 0):Nat):Int)) O O (C7 (a:=r) (b:=vb.getD ((nw b)-1) 0) Z)) O (AK O (AE.nil (AC.subF (sL [4,5,6,7,8,9,10,12,13] O) ?_)))))
      exact AC.in_normal (AC.round2 (d-1) (r+vb.getD (nw b-1) 0) (⟨hng1,Z,Z⟩) Z (sF O) sr)
    ·skip
     obtain ⟨hng1,hng2⟩:=IX hN hWin hG (λh=>hsp h.1)
     refine C2 [(0,true),(1,true),(2,true),(3,true),(4,true),(5,true),(6,true),(7,true),(8,true),(9,true),(10,true),(11,true),(12,true),(13,true),(14,true),(15,true),(16,true),(17,true),(18,true),(19,true),(20,true),(21,true),(22,true),(23,true)] sr (Bm O (Ay O (GJ (c:=false) O O (SP.trans (decide_eq_false hsp))) (Bm O (AS.skp O (AQ O) O O (AS.skp O (AQ O) O O ?_)))))
     refine AS.skp O (AQ O) O O (AS.skp O (AQ O) O O (AS.skp O (AQ O) O O (AS.skp O (AQ O) O O (AS.skp O (AQ O) O O (AS.skp O (AQ O) O O ?_)))))
     refine AS.skp O (AQ O) O O (AS.skp O (AQ O) O O (AS.skp O (AQ O) O O (AS.skp O (AQ O) O O (AS.skp O (AQ O) O O (AS.skp O (AQ O) O O ?_)))))
     refine AS.skp O (AQ O) O O (AS.skp O (AQ O) O O (AS.skp O (AQ O) O O (AS.skp O (AQ O) O O (AS.skp O (AQ O) O O (AS.skp O (AQ O) O O ?_)))))
     refine Ay (v:=(Value.bool false)) O (AY O O) (AS.nil (AC.subF (sL [4,5,6,7,8,9,10,12,13,105] O) (AC.then_ (AF.cond_false O (AF.skip ?_)))))
     refine q2 (AO O (AH (Bo (c:=((d-1:Nat):Int)) O O (Gd (a:=d) (b:=1) Z Z)) O (AK O (AE.nil (AC.subF (sL [4,5,6,7,8,9,10,12,13] O) ?_)))))
     refine AC.then_ (AF.region (AO O (AO O (AO O (AH (Bo (c:=(((nw b)-1:Nat):Int)) O O (CJ (a:=nw b) (b:=1) Z Z)) O ?_)))))
     refine AH (v:=(pP b2 ((nw b)-1))) (AI (j:=(nw b)-1) O O underlying187 sizeOf83 O Z (by simp)) O ?_
     have hx9:vb.getD ((nw b)-1) 0<4294967296:=W32.getD hN.w32 ((nw b)-1)
     refine AH (AM (i:=1) (v:=(vK .u32 (vb.getD ((nw b)-1) 0))) O O isAgg83 (BG (xs:=vb) (j:=((nw b)-1)) Z)) O (AH (Au (c:=((vb.getD ((nw b)-1) 0:Nat):Int)) O underlying83 underlying53 (BT Z)) O (AH (AW (c:=((r+(vb.getD ((nw b)-1) 0):Nat):Int)) O O (C7 (a:=r) (b:=vb.getD ((nw b)-1) 0) Z)) O (AK O (AE.nil (AC.subF (sL [4,5,6,7,8,9,10,12,13] O) ?_)))))
     exact AC.in_normal (AC.round2 (d-1) (r+vb.getD (nw b-1) 0) (⟨hng1,Z,Z⟩) Z (sF O) sr)
   ·replace hc1:=of_decide_eq_false hc1
    have hg:=JG hN hWin hG (.inl Z)
    exact AF.exit (AC.then_exit (AC.round2_exit (AC.in_exit (AC.join1 d (hg) (sF O) sr))))
  ·intro d hJ
   obtain ⟨hdb,hdq⟩:=hJ
   refine q1 (q4 (AO O (AO O (AO O (AO O ?_)))))
   refine AH (AW (c:=((k+(nw b):Nat):Int)) O O (AZ (a:=k) (b:=nw b) Z)) O (AH (AW (c:=(((k+(nw b))+1:Nat):Int)) O O (AZ (a:=k+(nw b)) (b:=1) Z)) O (AH (v:=(Value.slice (some ⟨b1,k,none⟩) (((k+(nw b))+1)-k) ((nw a+1)-k))) (Kk (i:=k) (m:=(k+(nw b))+1) O O O underlying187 sizeOf83 Z Z Z (by simp)) O (AE.retell (k:=122) (u:=(Value.slice (some ⟨b1,k,none⟩) (nw b+1) ((nw a+1)-k))) O (by rw [show k+nw b+1-k=nw b+1 by omega]) (AO O (AO O ?_)))))
   refine AE.callM (v:=(Value.bool (decide (val us<d*val (vb.take (nw b))*4294967296^k)))) (i:=2) (cs':=Aj (CN (nw a+1) (val us+(if val us<d*val (vb.take (nw b))*4294967296^k then 4294967296^(k+nw b+1) else 0)-d*val (vb.take (nw b))*4294967296^k))) (L':=[Ae b3 83 (Aj qs),Ae b2 83 (Aj vb),Ae b1 83 (Aj (CN (nw a+1) (val us+(if val us<d*val (vb.take (nw b))*4294967296^k then 4294967296^(k+nw b+1) else 0)-d*val (vb.take (nw b))*4294967296^k)))]) (AP O) (Ao (args:=[(Value.slice (some ⟨b1,k,none⟩) (nw b+1) ((nw a+1)-k)),(Value.slice (some ⟨b2,0,none⟩) (nw b) (nw b+1)),(vK .u64 d)]) O O call186) O (λw hw=>SA _ _ k (nw b) (nw a+1) _ _ d us vb huw hul hN.w32 Z Z Z Z hWin.fits ((hw.apart (i:=1) (j:=2) (by decide) O O)) w (hw.get (i:=2) O) (hw.get (i:=1) O)) (λd hd=>by cases hd<;>exact (Ad O)) O (AE.nil (AC.subF (sL [4,5,6,7,8,9,10,12,125] O) (AC.then_ ?_)))
   refine AF.jn1 (tg λ(us2:List Nat)=>us2.length=nw a+1/\W32 us2/\val us2=val us-W/V*V*4294967296^k) (tg λ(us2:List Nat)=>[(4,(Value.slice (some ⟨b3,0,none⟩) m m)),(5,(Value.slice none 0 0)),(6,(vN s)),(7,(Value.slice (some ⟨b1,0,none⟩) (nw a+1) (nw a+1))),(8,(Value.slice (some ⟨b2,0,none⟩) (nw b) (nw b+1))),(9,(vN (nw b))),(10,(vN k)),(12,(vK .u64 (W/V)))]) (tg λ(us2:List Nat)=>[Ae b3 83 (Aj qs),Ae b2 83 (Aj vb),Ae b1 83 (Aj us2)]) ?_ ?_
   ·skip
    refine AF.cond O (λhc3=>?_) (λhc3=>?_)
    ·replace hc3:=of_decide_eq_true hc3
     have hP:4294967296^(k+nw b+1)<=4294967296^(nw a+1):=Nat.pow_le_pow_right Z Z
     rw [hN.take] at hc3
     obtain ⟨hde,hdS⟩:=Mh (vb:=vb) hWin hdq hc3
     have hXP:V*4294967296^k<=4294967296^(k+nw b+1):=Nat.le_trans (Nat.mul_le_mul_right _ (Nat.le_of_lt hN.high)) (by rw [<-Nat.pow_add];exact Nat.pow_le_pow_right Z Z)
     have hqle:=Md (vb:=vb) hWin
     have hfit:=hWin.fits
     have hd1:1<=d:=by rw [hde];exact Nat.le_add_left _ _
     have hU1:val (CN (nw a+1) (val us+(if val us<d*val (vb.take (nw b))*4294967296^k then 4294967296^(k+nw b+1) else 0)-d*val (vb.take (nw b))*4294967296^k))=val us+4294967296^(k+nw b+1)-d*V*4294967296^k:=by rw [hN.take,if_pos hc3,EK _ _ Z]
     have hU1lt:val (CN (nw a+1) (val us+(if val us<d*val (vb.take (nw b))*4294967296^k then 4294967296^(k+nw b+1) else 0)-d*val (vb.take (nw b))*4294967296^k))<4294967296^(k+nw b+1):=by rw [hU1];omega
     refine q4 (AO O (AH (Bo (c:=((d-1:Nat):Int)) O O (Gd (a:=d) (b:=1) Z Z)) O (AK O (q3 (sL [4,5,6,7,8,9,10,12] O) (AK O ?_)))))
     refine AE.nil (q1 (q4 (AO O (AH (v:=(vN (nw b))) (AG O underlying187) O (AO O ?_)))))
     refine AE.nil (AC.then_ (AF.block ?_))
     refine AF.lp3 (tg λ(i:Nat) (os:List Nat) (c:Nat)=>i<=nw b/\os.length=nw a+1/\W32 os/\c<=1/\(∀j,k+nw b+1<=j->os.getD j 0=0)/\val os+c*4294967296^(k+i)=(val us+4294967296^(k+nw b+1)-d*V*4294967296^k)+val (vb.take i)*4294967296^k) (tg λ(i:Nat) (os:List Nat) (c:Nat)=>[(4,(Value.slice (some ⟨b3,0,none⟩) m m)),(5,(Value.slice none 0 0)),(6,(vN s)),(7,(Value.slice (some ⟨b1,0,none⟩) (nw a+1) (nw a+1))),(8,(Value.slice (some ⟨b2,0,none⟩) (nw b) (nw b+1))),(9,(vN (nw b))),(10,(vN k)),(12,(vK .u64 (d-1))),(128,(Value.slice (some ⟨b2,0,none⟩) (nw b) (nw b+1))),(129,(vN (nw b))),(130,(vN i)),(14,(vK .u32 c))]) (tg λ(i:Nat) (os:List Nat) (c:Nat)=>[Ae b3 83 (Aj qs),Ae b2 83 (Aj vb),Ae b1 83 (Aj os)]) (tg λ(i:Nat) (os:List Nat) (c:Nat)=>nw b-i) 0 (CN (nw a+1) (val us+(if val us<d*val (vb.take (nw b))*4294967296^k then 4294967296^(k+nw b+1) else 0)-d*val (vb.take (nw b))*4294967296^k)) 0 (⟨Nat.zero_le _,Bb _ _,DP _ _,Z,HY hU1lt,by rw [hU1];simp [val]⟩) (sF O) sr (λi os c hJ=>?_)
     obtain ⟨hi,hl,hw32,hcc,hz,hv⟩:=hJ
     refine q4 (AH (Af (c:=(decide (i<(nw b)))) O O (C1 (a:=i) (b:=nw b))) O (AE.nil (q1 ?_)))
     refine AF.cond O (λhc4=>?_) (λhc4=>?_)
     ·replace hc4:=of_decide_eq_true hc4
      refine AF.skip (q1 (AF.block (q4 (AO O (AH (v:=(pP b2 i)) (AI (j:=i) O O underlying187 sizeOf83 O Z (by simp)) O ?_)))))
      have hx10:vb.getD i 0<4294967296:=W32.getD hN.w32 i
      refine AH (AM (i:=1) (v:=(vK .u32 (vb.getD i 0))) O O isAgg83 (BG (xs:=vb) (j:=i) Z)) O (AK O (AK O (AE.nil (AC.subF (sL [4,5,6,7,8,9,10,12,128,129,130,14,15,16] O) (AC.then_ ?_)))))
      refine AF.region (AO O (AO O (AO O (AH (AW (c:=((k+i:Nat):Int)) O O (AZ (a:=k) (b:=i) Z)) O (AO O ?_)))))
      refine AO O (AO O (AH (AW (c:=((k+i:Nat):Int)) O O (AZ (a:=k) (b:=i) Z)) O (AH (v:=(pP b1 (k+i))) (AI (j:=k+i) O O underlying187 sizeOf83 O Z (by simp)) O ?_)))
      have hx11:os.getD (k+i) 0<4294967296:=W32.getD hw32 (k+i)
      refine AH (AM (i:=2) (v:=(vK .u32 (os.getD (k+i) 0))) O O isAgg83 (BG (xs:=os) (j:=(k+i)) Z)) O (AO O (AO O (BS call144 (I3 (os.getD (k+i) 0) (vb.getD i 0) c Z Z Z) O (AO O (AH (AX (v:=(vK .u32 (((os.getD (k+i) 0)+(vb.getD i 0)+c)%4294967296))) O O) O ?_)))))
      refine AH (AX (v:=(vK .u32 (((os.getD (k+i) 0)+(vb.getD i 0)+c)/4294967296))) O O) O (AH (v:=(pP b1 (k+i))) (AI (j:=k+i) O O underlying187 sizeOf83 O Z (by simp)) O (AE.store' (i:=2) (off:=(k+i)) (vs:=[(vK .u32 (((os.getD (k+i) 0)+(vb.getD i 0)+c)%4294967296))]) (cs':=Aj (os.set (k+i) (((os.getD (k+i) 0)+(vb.getD i 0)+c)%4294967296))) (L':=[Ae b3 83 (Aj qs),Ae b2 83 (Aj vb),Ae b1 83 (Aj (os.set (k+i) (((os.getD (k+i) 0)+(vb.getD i 0)+c)%4294967296)))]) (AP O) O O O O O sizeOf83 O (CP (BP _) Z) (B5 Z) O (AK O (AE.nil (AC.subF (sL [4,5,6,7,8,9,10,12,128,129,130,14] O) ?_)))))
      refine AC.in_normal (AC.then_ (AF.region (AH (AW (c:=((i+1:Nat):Int)) O O (AZ (a:=i) (b:=1) Z)) O (AO O (AE.nil ?_)))))
      exact AC.subF (sL [4,5,6,7,8,9,10,12,128,129,130,14] O) (AC.round3 (i+1) (os.set (k+i) ((os.getD (k+i) 0+vb.getD i 0+c)%4294967296)) ((os.getD (k+i) 0+vb.getD i 0+c)/4294967296) (⟨Z,by rw [List.length_set];exact hl,W32.set hw32 Z _,Z,E2 hz Z,PC hl Z hv⟩) Z (sF O) sr)
     ·replace hc4:=of_decide_eq_false hc4
      have hib:i=nw b:=by omega
      have hv3:=hv
      rw [hib,hN.take] at hv3
      have hbk:=Ov (T:=val us-W/V*V*4294967296^k) (P:=4294967296^(k+nw b+1)) hl Z hw32 hcc hz rfl (hv3.trans (MN hdS hqle hfit hc3 hXP)) (Nat.lt_of_le_of_lt (Nat.sub_le _ _) hfit)
      refine AF.exit (AC.then_exit (AC.round3_exit (AC.in_exit (AC.then_ (AF.region ?_)))))
      refine AO O (AO O (AO O (AH (AW (c:=((k+(nw b):Nat):Int)) O O (AZ (a:=k) (b:=nw b) Z)) O (AH (v:=(pP b1 (k+(nw b)))) (AI (j:=k+(nw b)) O O underlying187 sizeOf83 O Z (by simp)) O ?_))))
      have hx12:os.getD (k+(nw b)) 0<4294967296:=W32.getD hw32 (k+(nw b))
      refine AH (AM (i:=2) (v:=(vK .u32 (os.getD (k+(nw b)) 0))) O O isAgg83 (BG (xs:=os) (j:=(k+(nw b))) Z)) O (AO O (AH (AW (c:=(((os.getD (k+nw b) 0+c)%4294967296:Nat):Int)) O O Pc) O (AH (v:=(pP b1 (k+(nw b)))) (AI (j:=k+(nw b)) O O underlying187 sizeOf83 O Z (by simp)) O (AE.store' (i:=2) (off:=(k+(nw b))) (vs:=[(vK .u32 ((os.getD (k+nw b) 0+c)%4294967296))]) (cs':=Aj (os.set (k+(nw b)) ((os.getD (k+nw b) 0+c)%4294967296))) (L':=[Ae b3 83 (Aj qs),Ae b2 83 (Aj vb),Ae b1 83 (Aj (os.set (k+(nw b)) ((os.getD (k+nw b) 0+c)%4294967296)))]) (AP O) O O O O O sizeOf83 O (CP (BP _) Z) (B5 Z) O (AE.nil ?_)))))
      exact AC.subF (sL [4,5,6,7,8,9,10,12,128,129,130,14] O) (AC.retell (k:=12) (u:=Value.int .u64 ((W/V:Nat):Int)) O (by rw [hde,Nat.add_sub_cancel]) (AC.join1 (os.set (k+(nw b)) ((os.getD (k+nw b) 0+c)%4294967296)) (⟨by rw [List.length_set];exact hl,W32.set hw32 Z _,hbk⟩) (sF O) sr))
    ·replace hc3:=of_decide_eq_false hc3
     have hP:4294967296^(k+nw b+1)<=4294967296^(nw a+1):=Nat.pow_le_pow_right Z Z
     rw [hN.take] at hc3
     obtain ⟨hde,hdS⟩:=MH hN hWin hdq hc3
     have hfit:=hWin.fits
     have hU1:val (CN (nw a+1) (val us+(if val us<d*val (vb.take (nw b))*4294967296^k then 4294967296^(k+nw b+1) else 0)-d*val (vb.take (nw b))*4294967296^k))=val us-W/V*V*4294967296^k:=by rw [hN.take,if_neg hc3,EK _ _ Z];exact hdS
     exact AF.skip (AC.retell (k:=12) (u:=Value.int .u64 ((W/V:Nat):Int)) O (by rw [hde]) (AC.join1 (CN (nw a+1) (val us+(if val us<d*val (vb.take (nw b))*4294967296^k then 4294967296^(k+nw b+1) else 0)-d*val (vb.take (nw b))*4294967296^k)) (⟨Bb _ _,DP _ _,hU1⟩) (sF O) sr))
   ·intro us2 hJ
    obtain ⟨hu2l,hu2w,hu2v⟩:=hJ
    refine AC.then_ (AF.region (AO O (AO O (AO O (AH (Au (c:=((W/V:Nat):Int)) O underlying53 underlying83 (CI (by exact hq32))) O ?_)))))
    refine AH (v:=(pP b3 k)) (AI (j:=k) O O underlying187 sizeOf83 O Z (by simp)) O (AE.store' (i:=0) (off:=k) (vs:=[(vK .u32 (W/V))]) (cs':=Aj (qs.set k (W/V))) (L':=[Ae b3 83 (Aj (qs.set k (W/V))),Ae b2 83 (Aj vb),Ae b1 83 (Aj us2)]) (AP O) O O O O O sizeOf83 O (CP (BP _) Z) (B5 Z) O (AE.nil (AC.subF (sL [4,5,6,7,8,9,10,12] O) (AC.scope_normal (AC.in_normal ?_)))))
    refine AC.then_ (AF.region (AO O (AH (Bo (c:=(((k:Nat):Int)-1)) O O (BK Z Z)) O (AK O (AE.nil ?_)))))
    refine AC.subF (sL [4,5,6,7,8,9,10,12] O) ?_
    have hdd:=Me hN hWin hu2v hAeq hql Z (hqz k Z)
    exact AC.round3 k us2 (qs.set k (W/V)) (⟨Z,hu2l,hu2w,by rw [List.length_set];exact hql,W32.set hqw hq32 _,λj hj=>by rw [Hq Z];exact hqz j Z,hdd.1,hdd.2⟩) Z (sF O) sr
 ·replace hc0:=of_decide_eq_false hc0
  have hk00:k0=0:=by omega
  have hlt0:=hlt
  rw [hk00,Nat.pow_zero,Nat.mul_one] at hlt0
  have hfin:=Of (a:=a) (b:=b) (s:=s) (q:=val qs) (r:=val us) hb0 (by rw [<-hV];exact hAeq) (by rw [<-hV];exact hlt0)
  refine AF.exit (AC.then_exit (AC.round3_exit (AC.in_exit (q1 (q4 ?_)))))
  refine AO O (AO O (AE.nil (AC.then_ (AF.block ?_))))
  refine AF.lp2 (tg λ(i:Nat) (us3:List Nat)=>i<=s/\us3.length=nw a+1/\W32 us3/\val us3=a%b*2^s/2^i) (tg λ(i:Nat) (us3:List Nat)=>[(4,(Value.slice (some ⟨b3,0,none⟩) m m)),(5,(Value.slice none 0 0)),(7,(Value.slice (some ⟨b1,0,none⟩) (nw a+1) (nw a+1))),(167,(vN s)),(168,(vN i))]) (tg λ(i:Nat) (us3:List Nat)=>[Ae b3 83 (Aj qs),Ae b2 83 (Aj vb),Ae b1 83 (Aj us3)]) (tg λ(i:Nat) (us3:List Nat)=>s-i) 0 us (⟨Nat.zero_le _,hul,huw,by rw [hfin.2];simp⟩) (sF O) sr (λi us3 hJ=>?_)
  obtain ⟨hi,hl3,hw3,hv3⟩:=hJ
  refine q4 (AH (Af (c:=(decide (i<s))) O O (C1 (a:=i) (b:=s))) O (AE.nil (q1 ?_)))
  refine AF.cond O (λhc5=>?_) (λhc5=>?_)
  ·replace hc5:=of_decide_eq_true hc5
   refine AF.skip (q1 (AF.block (AF.region (AO O (AE.callM (v:=(Value.tuple #[])) (i:=2) (cs':=Aj (CN (nw a+1) (val us3/2))) (L':=[Ae b3 83 (Aj qs),Ae b2 83 (Aj vb),Ae b1 83 (Aj (CN (nw a+1) (val us3/2)))]) (AP O) (Ao (args:=[(Value.slice (some ⟨b1,0,none⟩) (nw a+1) (nw a+1))]) O O call187) O (λw hw=>Sb _ (nw a+1) _ us3 hw3 hl3 Z w (hw.get (i:=2) O)) (λd hd=>by cases hd<;>exact (Ad O)) O ?_)))))
   refine AE.nil (AC.subF (sL [4,5,7,167,168] O) (AC.in_normal (AC.then_ (AF.region (AH (AW (c:=((i+1:Nat):Int)) O O (AZ (a:=i) (b:=1) Z)) O ?_)))))
   refine AO O (AE.nil (AC.subF (sL [4,5,7,167,168] O) ?_))
   have hb3:val us3/2<4294967296^(nw a+1):=Nat.lt_of_le_of_lt (Nat.div_le_self _ _) (by have:=Fo hw3;rw [hl3] at this;exact this)
   exact AC.round2 (i+1) (CN (nw a+1) (val us3/2)) (⟨Z,Bb _ _,DP _ _,by rw [EK _ _ hb3,hv3,Nat.div_div_eq_div_mul,<-Nat.pow_succ]⟩) Z (sF O) sr
  ·replace hc5:=of_decide_eq_false hc5
   have his:i=s:=by omega
   have hr:val us3=a%b:=by rw [hv3,his,Nat.mul_div_cancel _ (Nat.pow_pos Z)]
   have hr1:=GQ hw3 hl3 hr
   have hq1:=GQ hqw hql hfin.1
   refine AF.exit (AC.then_exit (AC.round2_exit (AC.in_exit (q2 (AO O ?_)))))
   refine AO O (AK O (AK O (AE.nil (AC.subF (sL [4,5,7,167,168] O) (AC.then_ ?_)))))
   exact AF.ret (Ch O (Ab (v:=(Value.slice (some ⟨b3,0,none⟩) m m)) O) (Ab (v:=(Value.slice (some ⟨b1,0,none⟩) (nw a+1) (nw a+1))) O) (λw hw=>⟨b3,b1,by rw [hm],hw.out,hw.fresh (i:=0) O,hw.fresh (i:=2) O,(hw.apart (i:=0) (j:=2) (by decide) O O),by rw [<-hm,<-hq1];exact hw.get (i:=0) O,by rw [<-hr1];exact hw.get (i:=2) O⟩))
end
end Go.Proofs.YtfbomiejpbchdaaGreatDoor
