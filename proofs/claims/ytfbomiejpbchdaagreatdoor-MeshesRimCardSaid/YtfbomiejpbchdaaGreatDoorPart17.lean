import Derived.Test.YtfbomiejpbchdaaGreatDoorPart06
import Derived.Test.YtfbomiejpbchdaaGreatDoorPart15
import Derived.Test.YtfbomiejpbchdaaGreatDoorPart16
namespace Go.Proofs.YtfbomiejpbchdaaGreatDoor
open Go Go.RowKit Go.Proofs.Tryz
set_option linter.unusedVariables false
set_option linter.unusedSimpArgs false
section
set_option maxRecDepth 100000
theorem NK {R P D Q X:Nat} (h1:D=Q+X) (h2:Q<=R) (h3:R<P) (h4:R<D) (h5:X<=P):R+P-D+X=R-Q+P:=by omega
theorem Sd (a b p q c1 c2:Nat) (ha:nw a<=1099511627776) (hb2:2<=nw b) (hba:nw b<=nw a) (w:World) (hp:w.heap[p]?=some (.cells (Ak (Ax a)).toArray 83 (0,0))) (hq:w.heap[q]?=some (.cells (Ak (Ax b)).toArray 83 (0,0))):Calls prog 141 #[(Value.slice (some ⟨p,0,none⟩) (nw a) c1),(Value.slice (some ⟨q,0,none⟩) (nw b) c2)] w (λe w'=>∃b1 b2,e=.returned (.tuple #[.slice (some ⟨b1,0,none⟩) (nw a+1-nw b) (nw a+1-nw b),.slice (some ⟨b2,0,none⟩) (nw a+1) (nw a+1)])/\EU w.heap.size w w'/\w.heap.size<=b1/\w.heap.size<=b2/\b1≠b2/\w'.heap[b1]?=some (.cells (Ak (CT (nw a+1-nw b) (a/b))).toArray 83 (0,0))/\w'.heap[b2]?=some (.cells (Ak (CT (nw a+1) (a%b))).toArray 83 (0,0))):=by
 have hla:=CD a
 have hlb:=CD b
 have hb0:0<b:=Nat.pos_of_ne_zero (λh=>by rw [h,K5] at hb2;omega)
 obtain ⟨s,hs⟩:∃s,s=32-bl ((AL b).getD (nw b-1) 0):=⟨_,rfl⟩
 obtain ⟨hs32,hlow,hhigh⟩:=UA Z hs
 obtain ⟨m,hm⟩:∃m,m=nw a+1-nw b:=⟨_,rfl⟩
 obtain ⟨V,hV⟩:∃V,V=b*2^s:=⟨_,rfl⟩
 obtain ⟨vb,hvb⟩:∃vb,vb=CT (nw b+1) (b*2^s):=⟨_,rfl⟩
 have hbig:b*2^s<4294967296^(nw b+1):=Nat.lt_of_lt_of_le hhigh (Nat.pow_le_pow_right Z Z)
 have hN:NS vb (nw b) V:=⟨by rw [hvb];exact Da _ _,by rw [hvb];exact Bg _ _,hb2,by rw [hvb,hV];exact EN _ _ hbig,by rw [hV];exact hlow,by rw [hV];exact hhigh⟩
 have hst:=NP rfl Z hs32 hlow hm hba
 have hA:val (CT (nw a+1) (a*2^s))=a*2^s:=EN _ _ (by rw [Nat.pow_succ];exact Nat.mul_lt_mul_of_lt_of_le (Bu a) (Nat.le_trans (Nat.pow_le_pow_right Z (show s<=32 by omega)) (by decide)) Z)
 have hvlen:=hN.len
 have htop:=hN.top
 have htw:=(Lg (b:=b) Z).2.2
 refine Ac (args:=[(Value.slice (some ⟨p,0,none⟩) (nw a) c1),(Value.slice (some ⟨q,0,none⟩) (nw b) c2)]) func141 O O (Ab O) (AF.subF (sL [0,1] O) (q4 (AK O (AK O (AE.nil ?_)))))
 refine q2 (AO O (AO O (AG (v:=(vN (nw b))) (AH O underlying187) O (AG (Bz (c:=(((nw b)-1:Nat):Int)) O O (CV (a:=nw b) (b:=1) Z Z)) O (AG (v:=(pP q ((nw b)-1))) (AJ (j:=(nw b)-1) O O underlying187 sizeOf83 O Z (by simp)) O ?_)))))
 have hx1:(Ax b).getD ((nw b)-1) 0<4294967296:=W32.getD (CE b) ((nw b)-1)
 refine AG (Bc (v:=(vK .u32 ((Ax b).getD ((nw b)-1) 0))) O (λw' hw=>CA.at0 (hw.oldCA (by simp) (ED hq)) (BJ (xs:=Ax b) (j:=((nw b)-1)) Z)) isAgg83) O (AE.retell (k:=22) (u:=(vK .u32 ((AL b).getD (nw b-1) 0))) O (by rw [DA Z]) (BV call184 (SA ((AL b).getD (nw b-1) 0) Z) O (AE.retell (k:=23) (u:=(vN s)) O (by rw [hs]) (AK O (q6 (sL [0,1,4,5,6] O) ?_)))))
 refine C4 [(0,true),(1,true),(3,true),(4,true),(6,true),(7,true),(2,false),(5,false),(8,true),(9,true),(10,true)] sr (Bo O (Bo O (Bo O (Bo O (Bo O ?_)))))
 refine Ay (v:=(vN (nw b))) O (AH O underlying187) (AS.imp O (AE.callB (V:=λb1=>(Value.slice (some ⟨b1,0,none⟩) (nw a+1) (nw a+1))) (T:=83) (cs:=Ak (CT (nw a+1) (a*2^s))) (AQ O) (Aw (args:=[(Value.slice (some ⟨p,0,none⟩) (nw a) c1),(vN s)]) O O call185) (λw hw=>(by have h:=Ij p (nw a) c1 s (Ax a) (CE a) hla Z hs32 w (hw.old (by simp) hp);rw [Gq] at h;exact h)) O (Ab O) λb1=>AS.back (sl sr) (AS.imp O (AE.callB (V:=λb2=>(Value.slice (some ⟨b2,0,none⟩) (nw b+1) (nw b+1))) (T:=83) (cs:=Ak vb) (AQ O) (Aw (args:=[(Value.slice (some ⟨q,0,none⟩) (nw b) c2),(vN s)]) O O call185) (λw hw=>(by have h:=Ij q (nw b) c2 s (Ax b) (CE b) hlb Z hs32 w (hw.old (by simp) hq);rw [Gq,<-hvb] at h;exact h)) O (Ab O) λb2=>?_))))
 refine AS.back (sl (sl sr)) (Ay (v:=(Value.slice (some ⟨b2,0,none⟩) (nw b) (nw b+1))) O (Hm (m:=nw b) O O underlying187 sizeOf83 Z) (EZ O (EZ O (AS.nil (AD.subF (sL [1,4,5,6,7,8] O) ?_)))))
 refine q2 (AO O (AG (v:=(vN (nw b))) (AH O underlying187) O (AK O (q3 (sL [1,4,5,6,7,8,9] O) (AO O ?_)))))
 refine AG (v:=(vN (nw a+1))) (AH O underlying187) O (AO O (AG (Bz (c:=(((nw a+1)-(nw b):Nat):Int)) O O (CV (a:=nw a+1) (b:=nw b) Z Z)) O (AE.retell (k:=38) (u:=(vN m)) O (by rw [hm]) (AE.openV (V:=λb3=>(Value.slice (some ⟨b3,0,none⟩) m m)) (T:=83) (cs:=Ak (List.replicate m 0)) (AQ O) (Cv (m:=m) (c:=m) O O Z Z) O (Ab O) λb3=>AK O ?_))))
 refine q6 (sL [1,4,5,6,7,8,9] O) (q4 (AO O (AG (v:=(vN m)) (AH O underlying187) O (AG (Bz (c:=(((m:Nat):Int)-1)) O O (BM Z Z)) O (AK O ?_)))))
 refine AE.nil (AD.subF (sL [1,4,5,6,7,8,9,10] O) (AD.then_ (AF.block ?_)))
 refine AF.lp3 (tg λ(k0:Nat) (us:List Nat) (qs:List Nat)=>k0<=m/\us.length=nw a+1/\W32 us/\qs.length=m/\W32 qs/\(∀j,j<k0->qs.getD j 0=0)/\val us<V*4294967296^k0/\a*2^s=val qs*V+val us) (tg λ(k0:Nat) (us:List Nat) (qs:List Nat)=>[(4,(Value.slice (some ⟨b3,0,none⟩) m m)),(5,(Value.slice none 0 0)),(6,(vN s)),(7,(Value.slice (some ⟨b1,0,none⟩) (nw a+1) (nw a+1))),(8,(Value.slice (some ⟨b2,0,none⟩) (nw b) (nw b+1))),(9,(vN (nw b))),(10,(vI (((k0:Nat):Int)-1)))]) (tg λ(k0:Nat) (us:List Nat) (qs:List Nat)=>[Ae b3 83 (Ak qs),Ae b2 83 (Ak vb),Ae b1 83 (Ak us)]) (tg λ(k0:Nat) (us:List Nat) (qs:List Nat)=>k0) m (CT (nw a+1) (a*2^s)) (List.replicate m 0) (⟨Nat.le_refl _,Bg _ _,Da _ _,by simp,W32.zeros _,λj _=>by simp [List.getD_eq_getElem?_getD,List.getElem?_replicate];split<;>rfl,by rw [hA,hV];exact hst,by rw [hA,De];simp⟩) (sF O) sr (λk0 us qs hJ=>?_)
 obtain ⟨hk0,hul,huw,hql,hqw,hqz,hlt,hAeq⟩:=hJ
 refine AF.seq (q4 (AO O (AG (CQ (c:=(decide ((0:Int)<=(((k0:Nat):Int)-1)))) O O O) O (AE.nil (AD.subF (sL [4,5,6,7,8,9,10,44] O) ?_)))))
 refine AD.then_ ?_
 refine AF.cond O (λhc0=>?_) (λhc0=>?_)
 ·replace hc0:=of_decide_eq_true hc0
  obtain ⟨k,rfl⟩:∃k,k0=k+1:=⟨k0-1,Z⟩
  obtain ⟨top,htp⟩:∃t,t=us.getD (k+nw b) 0*4294967296+us.getD (k+nw b-1) 0:=⟨_,rfl⟩
  obtain ⟨W,hWd⟩:∃x,x=val us/4294967296^k:=⟨_,rfl⟩
  have hWin:=T_ hN huw hlt
  rw [<-htp,<-hWd] at hWin
  have hu2:=huw.getD (k+nw b-2)
  have hG0:=MR hN hWin hu2
  have htb:=hWin.topb
  have hq32:=hWin.quo_lt hN.pos
  refine AF.retell (k:=10) (u:=(vN k)) O (by congr 1;omega) (AF.skip (q1 (AF.block (AF.scope (AF.seq ?_)))))
  refine C4 [(0,true),(1,true),(2,true),(3,true),(4,true),(5,true),(6,true),(7,true),(8,true),(9,true),(10,true),(11,true),(12,true),(13,true),(14,true),(15,true),(16,true),(17,true)] sr (Bo O (Bo O (Bo O (Ay O (AX (c:=((k+(nw b):Nat):Int)) O O (AY (a:=k) (b:=nw b) Z)) (Ay (v:=(pP b1 (k+(nw b)))) O (AJ (j:=k+(nw b)) O O underlying187 sizeOf83 O Z (by simp)) ?_)))))
  have hx2:us.getD (k+(nw b)) 0<4294967296:=W32.getD huw (k+(nw b))
  refine Ay O (AM (i:=2) (v:=(vK .u32 (us.getD (k+(nw b)) 0))) O O isAgg83 (BJ (xs:=us) (j:=(k+(nw b))) Z)) (Ay O (Aq (c:=((us.getD (k+(nw b)) 0:Nat):Int)) O underlying83 underlying53 (BY Z)) (Ay (v:=(vK .u64 (us.getD (k+nw b) 0*4294967296))) O (FW (s:=32) O O O (by decide) (Fk (s:=32) Z)) (Bo O (Bo O (Bo O ?_)))))
  refine Ay O (AX (c:=((k+(nw b):Nat):Int)) O O (AY (a:=k) (b:=nw b) Z)) (Ay O (Bz (c:=(((k+(nw b))-1:Nat):Int)) O O (CV (a:=k+(nw b)) (b:=1) Z Z)) (Ay (v:=(pP b1 ((k+(nw b))-1))) O (AJ (j:=(k+(nw b))-1) O O underlying187 sizeOf83 O Z (by simp)) ?_))
  have hx3:us.getD ((k+(nw b))-1) 0<4294967296:=W32.getD huw ((k+(nw b))-1)
  refine Ay O (AM (i:=2) (v:=(vK .u32 (us.getD ((k+(nw b))-1) 0))) O O isAgg83 (BJ (xs:=us) (j:=((k+(nw b))-1)) Z)) (Ay O (Aq (c:=((us.getD ((k+(nw b))-1) 0:Nat):Int)) O underlying83 underlying53 (BY Z)) (Ay O (Hu (c:=((top:Nat):Int)) O O (IM Z Z (((Nat.or_comm _ _).trans ((GO (s:=32) Z).trans (Nat.add_comm _ _))).trans htp.symm))) (EZ O (AS.nil (AD.subF (sL [4,5,6,7,8,9,10,11] O) ?_)))))
  refine q1 (C4 [(0,true),(1,true),(2,true),(3,true),(4,true),(5,true),(6,true),(7,true),(8,true),(9,true),(10,true),(11,true),(12,true),(13,true),(14,true),(15,true),(16,true),(17,true)] sr (Bo O (Bo O (Bo O (Ay O (Bz (c:=(((nw b)-1:Nat):Int)) O O (CV (a:=nw b) (b:=1) Z Z)) ?_)))))
  refine Ay (v:=(pP b2 ((nw b)-1))) O (AJ (j:=(nw b)-1) O O underlying187 sizeOf83 O Z (by simp)) ?_
  have hx4:vb.getD ((nw b)-1) 0<4294967296:=W32.getD hN.w32 ((nw b)-1)
  refine Ay O (AM (i:=1) (v:=(vK .u32 (vb.getD ((nw b)-1) 0))) O O isAgg83 (BJ (xs:=vb) (j:=((nw b)-1)) Z)) (Ay O (Aq (c:=((vb.getD ((nw b)-1) 0:Nat):Int)) O underlying83 underlying53 (BY Z)) (Ay O (Fh (c:=((top/(vb.getD ((nw b)-1) 0):Nat):Int)) O O Z (Ig (a:=top) (b:=vb.getD ((nw b)-1) 0) Z)) (Bo O (Bo O (Bo O ?_)))))
  refine Ay O (Bz (c:=(((nw b)-1:Nat):Int)) O O (CV (a:=nw b) (b:=1) Z Z)) (Ay (v:=(pP b2 ((nw b)-1))) O (AJ (j:=(nw b)-1) O O underlying187 sizeOf83 O Z (by simp)) ?_)
  have hx5:vb.getD ((nw b)-1) 0<4294967296:=W32.getD hN.w32 ((nw b)-1)
  refine Ay O (AM (i:=1) (v:=(vK .u32 (vb.getD ((nw b)-1) 0))) O O isAgg83 (BJ (xs:=vb) (j:=((nw b)-1)) Z)) (Ay O (Aq (c:=((vb.getD ((nw b)-1) 0:Nat):Int)) O underlying83 underlying53 (BY Z)) (Ay O (B6 (c:=((top%(vb.getD ((nw b)-1) 0):Nat):Int)) O O Z (HH (a:=top) (b:=vb.getD ((nw b)-1) 0))) (EZ O (EZ O (AS.nil ?_)))))
  refine AD.subF (sL [4,5,6,7,8,9,10,12,13] O) (q1 (AF.label (q1 ?_)))
  refine AF.jn1 (tg λ(d:Nat)=>d<=4294967295/\(d=W/V\/d=W/V+1)) (tg λ(d:Nat)=>[(4,(Value.slice (some ⟨b3,0,none⟩) m m)),(5,(Value.slice none 0 0)),(6,(vN s)),(7,(Value.slice (some ⟨b1,0,none⟩) (nw a+1) (nw a+1))),(8,(Value.slice (some ⟨b2,0,none⟩) (nw b) (nw b+1))),(9,(vN (nw b))),(10,(vN k)),(12,(vK .u64 d))]) (tg λ(d:Nat)=>[Ae b3 83 (Ak qs),Ae b2 83 (Ak vb),Ae b1 83 (Ak us)]) ?_ ?_
  ·skip
   refine AF.block ?_
   refine AF.lp2 (tg λ(d:Nat) (r:Nat)=>HD V W (vb.getD (nw b-1) 0) top d r/\r<8589934592/\d<8589934593) (tg λ(d:Nat) (r:Nat)=>[(4,(Value.slice (some ⟨b3,0,none⟩) m m)),(5,(Value.slice none 0 0)),(6,(vN s)),(7,(Value.slice (some ⟨b1,0,none⟩) (nw a+1) (nw a+1))),(8,(Value.slice (some ⟨b2,0,none⟩) (nw b) (nw b+1))),(9,(vN (nw b))),(10,(vN k)),(12,(vK .u64 d)),(13,(vK .u64 r))]) (tg λ(d:Nat) (r:Nat)=>[Ae b3 83 (Ak qs),Ae b2 83 (Ak vb),Ae b1 83 (Ak us)]) (tg λ(d:Nat) (r:Nat)=>d) (top/vb.getD (nw b-1) 0) (top%vb.getD (nw b-1) 0) (⟨hG0,by have:=Nat.mod_lt top (show vb.getD (nw b-1) 0>0 by omega);omega,Nat.div_lt_of_lt_mul Z⟩) (sF O) sr (λd r hJ=>?_)
   obtain ⟨hG,hr2,hd2⟩:=hJ
   refine AF.seq (q4 (AO O (AG (HL (c:=(decide (r<=4294967295))) O O (SP (a:=r) (b:=4294967295))) O (AE.nil (AD.subF (sL [4,5,6,7,8,9,10,12,13,81] O) ?_)))))
   refine AD.then_ ?_
   refine AF.cond O (λhc1=>?_) (λhc1=>?_)
   ·replace hc1:=of_decide_eq_true hc1
    refine AF.skip (AD.then_ (AF.block (AF.seq (AF.seq ?_))))
    by_cases hsp:d<=4294967295
    ·skip
     have hv2:=hN.w32.getD (nw b-2)
     have hml:=Id (a:=d) (b:=vb.getD (nw b-2) 0) Z hv2
     refine C4 [(0,true),(1,true),(2,true),(3,true),(4,true),(5,true),(6,true),(7,true),(8,true),(9,true),(10,true),(11,true),(12,true),(13,true),(14,true),(15,true),(16,true),(17,true),(18,true),(19,true),(20,true),(21,true),(22,true),(23,true)] sr (Bo O (Ay O (HL (c:=true) O O (SP.trans (decide_eq_true hsp))) (Bo O (AS.pas (v:=(vK .u64 d)) O (AB O) (Az O) O O (AS.pas (v:=(Value.slice (some ⟨b2,0,none⟩) (nw b) (nw b+1))) O (AB O) (Az O) O O ?_)))))
     refine AS.pas (v:=(vN (nw b))) O (AB O) (Az O) O O (AS.pas (v:=(vN ((nw b)-2))) O (AB O) (Bz (c:=(((nw b)-2:Nat):Int)) O O (CV (a:=nw b) (b:=2) Z Z)) O O (AS.pas (v:=(pP b2 ((nw b)-2))) O (AB O) (AJ (j:=(nw b)-2) O O underlying187 sizeOf83 O Z (by simp)) O O ?_))
     have hx6:vb.getD ((nw b)-2) 0<4294967296:=W32.getD hN.w32 ((nw b)-2)
     refine AS.pas (v:=(vK .u32 (vb.getD ((nw b)-2) 0))) O (AB O) (AM (i:=1) (v:=(vK .u32 (vb.getD ((nw b)-2) 0))) O O isAgg83 (BJ (xs:=vb) (j:=((nw b)-2)) Z)) O O (AS.pas (v:=(vK .u64 (vb.getD ((nw b)-2) 0))) O (AB O) (Aq (c:=((vb.getD ((nw b)-2) 0:Nat):Int)) O underlying83 underlying53 (BY Z)) O O (AS.pas (v:=(vK .u64 (d*(vb.getD ((nw b)-2) 0)))) O (AB O) (Br (c:=((d*(vb.getD ((nw b)-2) 0):Nat):Int)) O O (EG (a:=d) (b:=vb.getD ((nw b)-2) 0) Z)) O O (AS.pas (v:=(vK .u64 r)) O (AB O) (Az O) O O (AS.pas (v:=(vK .u64 (r*4294967296))) O (AB O) (FW (s:=32) O O O (by decide) (Fk (s:=32) Z)) O O (AS.pas (v:=(Value.slice (some ⟨b1,0,none⟩) (nw a+1) (nw a+1))) O (AB O) (Az O) O O ?_)))))
     refine AS.pas (v:=(vN k)) O (AB O) (Az O) O O (AS.pas (v:=(vN (nw b))) O (AB O) (Az O) O O (AS.pas (v:=(vN (k+(nw b)))) O (AB O) (AX (c:=((k+(nw b):Nat):Int)) O O (AY (a:=k) (b:=nw b) Z)) O O (AS.pas (v:=(vN ((k+(nw b))-2))) O (AB O) (Bz (c:=(((k+(nw b))-2:Nat):Int)) O O (CV (a:=k+(nw b)) (b:=2) Z Z)) O O (AS.pas (v:=(pP b1 ((k+(nw b))-2))) O (AB O) (AJ (j:=(k+(nw b))-2) O O underlying187 sizeOf83 O Z (by simp)) O O ?_))))
     have hx7:us.getD ((k+(nw b))-2) 0<4294967296:=W32.getD huw ((k+(nw b))-2)
     refine AS.pas (v:=(vK .u32 (us.getD ((k+(nw b))-2) 0))) O (AB O) (AM (i:=2) (v:=(vK .u32 (us.getD ((k+(nw b))-2) 0))) O O isAgg83 (BJ (xs:=us) (j:=((k+(nw b))-2)) Z)) O O (AS.pas (v:=(vK .u64 (us.getD ((k+(nw b))-2) 0))) O (AB O) (Aq (c:=((us.getD ((k+(nw b))-2) 0:Nat):Int)) O underlying83 underlying53 (BY Z)) O O (AS.pas (v:=(vK .u64 (r*4294967296+us.getD (k+nw b-2) 0))) O (AB O) (Hu (c:=((r*4294967296+us.getD (k+nw b-2) 0:Nat):Int)) O O (IM Z Z (((Nat.or_comm _ _).trans ((GO (s:=32) Z).trans (Nat.add_comm _ _)))))) O O (AS.pas (v:=(Value.bool (decide ((d*(vb.getD ((nw b)-2) 0))<=(r*4294967296+us.getD (k+nw b-2) 0))))) O (AB O) (HL (c:=(decide ((d*(vb.getD ((nw b)-2) 0))<=(r*4294967296+us.getD (k+nw b-2) 0)))) O O (SP (a:=d*(vb.getD ((nw b)-2) 0)) (b:=r*4294967296+us.getD (k+nw b-2) 0))) O O (Ay (v:=(Value.bool (decide ((d*(vb.getD ((nw b)-2) 0))<=(r*4294967296+us.getD (k+nw b-2) 0))))) O (Ah O O) (AS.nil ?_)))))
     refine AD.subF (sL [4,5,6,7,8,9,10,12,13,105] O) (AD.then_ ?_)
     refine AF.cond O (λhc2=>?_) (λhc2=>?_)
     ·replace hc2:=of_decide_eq_true hc2
      have hg:=JM hN hWin hG (.inr ⟨hsp,hc2⟩)
      exact AF.exit (AD.then_exit (AD.in_exit_ne O (AD.round2_exit (AD.in_exit (AD.join1 d (hg) (sF O) sr)))))
     ·replace hc2:=of_decide_eq_false hc2
      obtain ⟨hng1,hng2⟩:=Im hN hWin hG (λh=>hc2 h.2)
      refine AF.skip (q2 (AO O (AG (Bz (c:=((d-1:Nat):Int)) O O (Gp (a:=d) (b:=1) Z Z)) O (AK O (AE.nil ?_)))))
      refine AD.subF (sL [4,5,6,7,8,9,10,12,13] O) (AD.then_ (AF.region (AO O (AO O (AO O ?_)))))
      refine AG (Bz (c:=(((nw b)-1:Nat):Int)) O O (CV (a:=nw b) (b:=1) Z Z)) O (AG (v:=(pP b2 ((nw b)-1))) (AJ (j:=(nw b)-1) O O underlying187 sizeOf83 O Z (by simp)) O ?_)
      have hx8:vb.getD ((nw b)-1) 0<4294967296:=W32.getD hN.w32 ((nw b)-1)
      refine AG (AM (i:=1) (v:=(vK .u32 (vb.getD ((nw b)-1) 0))) O O isAgg83 (BJ (xs:=vb) (j:=((nw b)-1)) Z)) O (AG (Aq (c:=((vb.getD ((nw b)-1) 0:Nat):Int)) O underlying83 underlying53 (BY Z)) O (AG (AX (c:=((r+(vb.getD ((nw b)-1) 0):Nat):Int)) O O (C7 (a:=r) (b:=vb.getD ((nw b)-1) 0) Z)) O (AK O (AE.nil (AD.subF (sL [4,5,6,7,8,9,10,12,13] O) ?_)))))
      exact AD.in_normal (AD.round2 (d-1) (r+vb.getD (nw b-1) 0) (⟨hng1,Z,Z⟩) Z (sF O) sr)
    ·skip
     obtain ⟨hng1,hng2⟩:=Im hN hWin hG (λh=>hsp h.1)
     refine C4 [(0,true),(1,true),(2,true),(3,true),(4,true),(5,true),(6,true),(7,true),(8,true),(9,true),(10,true),(11,true),(12,true),(13,true),(14,true),(15,true),(16,true),(17,true),(18,true),(19,true),(20,true),(21,true),(22,true),(23,true)] sr (Bo O (Ay O (HL (c:=false) O O (SP.trans (decide_eq_false hsp))) (Bo O (AS.skp O (AR O) O O (AS.skp O (AR O) O O ?_)))))
     refine AS.skp O (AR O) O O (AS.skp O (AR O) O O (AS.skp O (AR O) O O (AS.skp O (AR O) O O (AS.skp O (AR O) O O (AS.skp O (AR O) O O ?_)))))
     refine AS.skp O (AR O) O O (AS.skp O (AR O) O O (AS.skp O (AR O) O O (AS.skp O (AR O) O O (AS.skp O (AR O) O O (AS.skp O (AR O) O O ?_)))))
     refine AS.skp O (AR O) O O (AS.skp O (AR O) O O (AS.skp O (AR O) O O (AS.skp O (AR O) O O (AS.skp O (AR O) O O (AS.skp O (AR O) O O ?_)))))
     refine Ay (v:=(Value.bool false)) O (AU O O) (AS.nil (AD.subF (sL [4,5,6,7,8,9,10,12,13,105] O) (AD.then_ (AF.cond_false O (AF.skip ?_)))))
     refine q2 (AO O (AG (Bz (c:=((d-1:Nat):Int)) O O (Gp (a:=d) (b:=1) Z Z)) O (AK O (AE.nil (AD.subF (sL [4,5,6,7,8,9,10,12,13] O) ?_)))))
     refine AD.then_ (AF.region (AO O (AO O (AO O (AG (Bz (c:=(((nw b)-1:Nat):Int)) O O (CV (a:=nw b) (b:=1) Z Z)) O ?_)))))
     refine AG (v:=(pP b2 ((nw b)-1))) (AJ (j:=(nw b)-1) O O underlying187 sizeOf83 O Z (by simp)) O ?_
     have hx9:vb.getD ((nw b)-1) 0<4294967296:=W32.getD hN.w32 ((nw b)-1)
     refine AG (AM (i:=1) (v:=(vK .u32 (vb.getD ((nw b)-1) 0))) O O isAgg83 (BJ (xs:=vb) (j:=((nw b)-1)) Z)) O (AG (Aq (c:=((vb.getD ((nw b)-1) 0:Nat):Int)) O underlying83 underlying53 (BY Z)) O (AG (AX (c:=((r+(vb.getD ((nw b)-1) 0):Nat):Int)) O O (C7 (a:=r) (b:=vb.getD ((nw b)-1) 0) Z)) O (AK O (AE.nil (AD.subF (sL [4,5,6,7,8,9,10,12,13] O) ?_)))))
     exact AD.in_normal (AD.round2 (d-1) (r+vb.getD (nw b-1) 0) (⟨hng1,Z,Z⟩) Z (sF O) sr)
   ·replace hc1:=of_decide_eq_false hc1
    have hg:=JM hN hWin hG (.inl Z)
    exact AF.exit (AD.then_exit (AD.round2_exit (AD.in_exit (AD.join1 d (hg) (sF O) sr))))
  ·intro d hJ
   obtain ⟨hdb,hdq⟩:=hJ
   refine q1 (q4 (AO O (AO O (AO O (AO O ?_)))))
   refine AG (AX (c:=((k+(nw b):Nat):Int)) O O (AY (a:=k) (b:=nw b) Z)) O (AG (AX (c:=(((k+(nw b))+1:Nat):Int)) O O (AY (a:=k+(nw b)) (b:=1) Z)) O (AG (v:=(Value.slice (some ⟨b1,k,none⟩) (((k+(nw b))+1)-k) ((nw a+1)-k))) (LH (i:=k) (m:=(k+(nw b))+1) O O O underlying187 sizeOf83 Z Z Z (by simp)) O (AE.retell (k:=122) (u:=(Value.slice (some ⟨b1,k,none⟩) (nw b+1) ((nw a+1)-k))) O (by rw [show k+nw b+1-k=nw b+1 by omega]) (AO O (AO O ?_)))))
   refine AE.callM (v:=(Value.bool (decide (val us<d*val (vb.take (nw b))*4294967296^k)))) (i:=2) (cs':=Ak (CT (nw a+1) (val us+(if val us<d*val (vb.take (nw b))*4294967296^k then 4294967296^(k+nw b+1) else 0)-d*val (vb.take (nw b))*4294967296^k))) (L':=[Ae b3 83 (Ak qs),Ae b2 83 (Ak vb),Ae b1 83 (Ak (CT (nw a+1) (val us+(if val us<d*val (vb.take (nw b))*4294967296^k then 4294967296^(k+nw b+1) else 0)-d*val (vb.take (nw b))*4294967296^k)))]) (AQ O) (Aw (args:=[(Value.slice (some ⟨b1,k,none⟩) (nw b+1) ((nw a+1)-k)),(Value.slice (some ⟨b2,0,none⟩) (nw b) (nw b+1)),(vK .u64 d)]) O O call186) O (λw hw=>SN _ _ k (nw b) (nw a+1) _ _ d us vb huw hul hN.w32 Z Z Z Z hWin.fits ((hw.apart (i:=1) (j:=2) (by decide) O O)) w (hw.get (i:=2) O) (hw.get (i:=1) O)) (λd hd=>by cases hd<;>exact (Ab O)) O (AE.nil (AD.subF (sL [4,5,6,7,8,9,10,12,125] O) (AD.then_ ?_)))
   refine AF.jn1 (tg λ(us2:List Nat)=>us2.length=nw a+1/\W32 us2/\val us2=val us-W/V*V*4294967296^k) (tg λ(us2:List Nat)=>[(4,(Value.slice (some ⟨b3,0,none⟩) m m)),(5,(Value.slice none 0 0)),(6,(vN s)),(7,(Value.slice (some ⟨b1,0,none⟩) (nw a+1) (nw a+1))),(8,(Value.slice (some ⟨b2,0,none⟩) (nw b) (nw b+1))),(9,(vN (nw b))),(10,(vN k)),(12,(vK .u64 (W/V)))]) (tg λ(us2:List Nat)=>[Ae b3 83 (Ak qs),Ae b2 83 (Ak vb),Ae b1 83 (Ak us2)]) ?_ ?_
   ·skip
    refine AF.cond O (λhc3=>?_) (λhc3=>?_)
    ·replace hc3:=of_decide_eq_true hc3
     have hP:4294967296^(k+nw b+1)<=4294967296^(nw a+1):=Nat.pow_le_pow_right Z Z
     rw [hN.take] at hc3
     obtain ⟨hde,hdS⟩:=NI (vb:=vb) hWin hdq hc3
     have hXP:V*4294967296^k<=4294967296^(k+nw b+1):=Nat.le_trans (Nat.mul_le_mul_right _ (Nat.le_of_lt hN.high)) (by rw [<-Nat.pow_add];exact Nat.pow_le_pow_right Z Z)
     have hqle:=Mk (vb:=vb) hWin
     have hfit:=hWin.fits
     have hd1:1<=d:=by rw [hde];exact Nat.le_add_left _ _
     have hU1:val (CT (nw a+1) (val us+(if val us<d*val (vb.take (nw b))*4294967296^k then 4294967296^(k+nw b+1) else 0)-d*val (vb.take (nw b))*4294967296^k))=val us+4294967296^(k+nw b+1)-d*V*4294967296^k:=by rw [hN.take,if_pos hc3,EN _ _ Z]
     have hU1lt:val (CT (nw a+1) (val us+(if val us<d*val (vb.take (nw b))*4294967296^k then 4294967296^(k+nw b+1) else 0)-d*val (vb.take (nw b))*4294967296^k))<4294967296^(k+nw b+1):=by rw [hU1];omega
     refine q4 (AO O (AG (Bz (c:=((d-1:Nat):Int)) O O (Gp (a:=d) (b:=1) Z Z)) O (AK O (q3 (sL [4,5,6,7,8,9,10,12] O) (AK O ?_)))))
     refine AE.nil (q1 (q4 (AO O (AG (v:=(vN (nw b))) (AH O underlying187) O (AO O ?_)))))
     refine AE.nil (AD.then_ (AF.block ?_))
     refine AF.lp3 (tg λ(i:Nat) (os:List Nat) (c:Nat)=>i<=nw b/\os.length=nw a+1/\W32 os/\c<=1/\(∀j,k+nw b+1<=j->os.getD j 0=0)/\val os+c*4294967296^(k+i)=(val us+4294967296^(k+nw b+1)-d*V*4294967296^k)+val (vb.take i)*4294967296^k) (tg λ(i:Nat) (os:List Nat) (c:Nat)=>[(4,(Value.slice (some ⟨b3,0,none⟩) m m)),(5,(Value.slice none 0 0)),(6,(vN s)),(7,(Value.slice (some ⟨b1,0,none⟩) (nw a+1) (nw a+1))),(8,(Value.slice (some ⟨b2,0,none⟩) (nw b) (nw b+1))),(9,(vN (nw b))),(10,(vN k)),(12,(vK .u64 (d-1))),(128,(Value.slice (some ⟨b2,0,none⟩) (nw b) (nw b+1))),(129,(vN (nw b))),(130,(vN i)),(14,(vK .u32 c))]) (tg λ(i:Nat) (os:List Nat) (c:Nat)=>[Ae b3 83 (Ak qs),Ae b2 83 (Ak vb),Ae b1 83 (Ak os)]) (tg λ(i:Nat) (os:List Nat) (c:Nat)=>nw b-i) 0 (CT (nw a+1) (val us+(if val us<d*val (vb.take (nw b))*4294967296^k then 4294967296^(k+nw b+1) else 0)-d*val (vb.take (nw b))*4294967296^k)) 0 (⟨Nat.zero_le _,Bg _ _,Da _ _,Z,Hq hU1lt,by rw [hU1];simp [val]⟩) (sF O) sr (λi os c hJ=>?_)
     obtain ⟨hi,hl,hw32,hcc,hz,hv⟩:=hJ
     refine q4 (AG (Af (c:=(decide (i<(nw b)))) O O (C6 (a:=i) (b:=nw b))) O (AE.nil (q1 ?_)))
     refine AF.cond O (λhc4=>?_) (λhc4=>?_)
     ·replace hc4:=of_decide_eq_true hc4
      refine AF.skip (q1 (AF.block (q4 (AO O (AG (v:=(pP b2 i)) (AJ (j:=i) O O underlying187 sizeOf83 O Z (by simp)) O ?_)))))
      have hx10:vb.getD i 0<4294967296:=W32.getD hN.w32 i
      refine AG (AM (i:=1) (v:=(vK .u32 (vb.getD i 0))) O O isAgg83 (BJ (xs:=vb) (j:=i) Z)) O (AK O (AK O (AE.nil (AD.subF (sL [4,5,6,7,8,9,10,12,128,129,130,14,15,16] O) (AD.then_ ?_)))))
      refine AF.region (AO O (AO O (AO O (AG (AX (c:=((k+i:Nat):Int)) O O (AY (a:=k) (b:=i) Z)) O (AO O ?_)))))
      refine AO O (AO O (AG (AX (c:=((k+i:Nat):Int)) O O (AY (a:=k) (b:=i) Z)) O (AG (v:=(pP b1 (k+i))) (AJ (j:=k+i) O O underlying187 sizeOf83 O Z (by simp)) O ?_)))
      have hx11:os.getD (k+i) 0<4294967296:=W32.getD hw32 (k+i)
      refine AG (AM (i:=2) (v:=(vK .u32 (os.getD (k+i) 0))) O O isAgg83 (BJ (xs:=os) (j:=(k+i)) Z)) O (AO O (AO O (BV call144 (JV (os.getD (k+i) 0) (vb.getD i 0) c Z Z Z) O (AO O (AG (AZ (v:=(vK .u32 (((os.getD (k+i) 0)+(vb.getD i 0)+c)%4294967296))) O O) O ?_)))))
      refine AG (AZ (v:=(vK .u32 (((os.getD (k+i) 0)+(vb.getD i 0)+c)/4294967296))) O O) O (AG (v:=(pP b1 (k+i))) (AJ (j:=k+i) O O underlying187 sizeOf83 O Z (by simp)) O (AE.store' (i:=2) (off:=(k+i)) (vs:=[(vK .u32 (((os.getD (k+i) 0)+(vb.getD i 0)+c)%4294967296))]) (cs':=Ak (os.set (k+i) (((os.getD (k+i) 0)+(vb.getD i 0)+c)%4294967296))) (L':=[Ae b3 83 (Ak qs),Ae b2 83 (Ak vb),Ae b1 83 (Ak (os.set (k+i) (((os.getD (k+i) 0)+(vb.getD i 0)+c)%4294967296)))]) (AQ O) O O O O O sizeOf83 O (CU (BR _) Z) (B7 Z) O (AK O (AE.nil (AD.subF (sL [4,5,6,7,8,9,10,12,128,129,130,14] O) ?_)))))
      refine AD.in_normal (AD.then_ (AF.region (AG (AX (c:=((i+1:Nat):Int)) O O (AY (a:=i) (b:=1) Z)) O (AO O (AE.nil ?_)))))
      exact AD.subF (sL [4,5,6,7,8,9,10,12,128,129,130,14] O) (AD.round3 (i+1) (os.set (k+i) ((os.getD (k+i) 0+vb.getD i 0+c)%4294967296)) ((os.getD (k+i) 0+vb.getD i 0+c)/4294967296) (⟨Z,by rw [List.length_set];exact hl,W32.set hw32 Z _,Z,E1 hz Z,Oq hl Z hv⟩) Z (sF O) sr)
     ·replace hc4:=of_decide_eq_false hc4
      have hib:i=nw b:=by omega
      have hv3:=hv
      rw [hib,hN.take] at hv3
      have hbk:=OL (T:=val us-W/V*V*4294967296^k) (P:=4294967296^(k+nw b+1)) hl Z hw32 hcc hz rfl (hv3.trans (NK hdS hqle hfit hc3 hXP)) (Nat.lt_of_le_of_lt (Nat.sub_le _ _) hfit)
      refine AF.exit (AD.then_exit (AD.round3_exit (AD.in_exit (AD.then_ (AF.region ?_)))))
      refine AO O (AO O (AO O (AG (AX (c:=((k+(nw b):Nat):Int)) O O (AY (a:=k) (b:=nw b) Z)) O (AG (v:=(pP b1 (k+(nw b)))) (AJ (j:=k+(nw b)) O O underlying187 sizeOf83 O Z (by simp)) O ?_))))
      have hx12:os.getD (k+(nw b)) 0<4294967296:=W32.getD hw32 (k+(nw b))
      refine AG (AM (i:=2) (v:=(vK .u32 (os.getD (k+(nw b)) 0))) O O isAgg83 (BJ (xs:=os) (j:=(k+(nw b))) Z)) O (AO O (AG (AX (c:=(((os.getD (k+nw b) 0+c)%4294967296:Nat):Int)) O O Qy) O (AG (v:=(pP b1 (k+(nw b)))) (AJ (j:=k+(nw b)) O O underlying187 sizeOf83 O Z (by simp)) O (AE.store' (i:=2) (off:=(k+(nw b))) (vs:=[(vK .u32 ((os.getD (k+nw b) 0+c)%4294967296))]) (cs':=Ak (os.set (k+(nw b)) ((os.getD (k+nw b) 0+c)%4294967296))) (L':=[Ae b3 83 (Ak qs),Ae b2 83 (Ak vb),Ae b1 83 (Ak (os.set (k+(nw b)) ((os.getD (k+nw b) 0+c)%4294967296)))]) (AQ O) O O O O O sizeOf83 O (CU (BR _) Z) (B7 Z) O (AE.nil ?_)))))
      exact AD.subF (sL [4,5,6,7,8,9,10,12,128,129,130,14] O) (AD.retell (k:=12) (u:=Value.int .u64 ((W/V:Nat):Int)) O (by rw [hde,Nat.add_sub_cancel]) (AD.join1 (os.set (k+(nw b)) ((os.getD (k+nw b) 0+c)%4294967296)) (⟨by rw [List.length_set];exact hl,W32.set hw32 Z _,hbk⟩) (sF O) sr))
    ·replace hc3:=of_decide_eq_false hc3
     have hP:4294967296^(k+nw b+1)<=4294967296^(nw a+1):=Nat.pow_le_pow_right Z Z
     rw [hN.take] at hc3
     obtain ⟨hde,hdS⟩:=ND hN hWin hdq hc3
     have hfit:=hWin.fits
     have hU1:val (CT (nw a+1) (val us+(if val us<d*val (vb.take (nw b))*4294967296^k then 4294967296^(k+nw b+1) else 0)-d*val (vb.take (nw b))*4294967296^k))=val us-W/V*V*4294967296^k:=by rw [hN.take,if_neg hc3,EN _ _ Z];exact hdS
     exact AF.skip (AD.retell (k:=12) (u:=Value.int .u64 ((W/V:Nat):Int)) O (by rw [hde]) (AD.join1 (CT (nw a+1) (val us+(if val us<d*val (vb.take (nw b))*4294967296^k then 4294967296^(k+nw b+1) else 0)-d*val (vb.take (nw b))*4294967296^k)) (⟨Bg _ _,Da _ _,hU1⟩) (sF O) sr))
   ·intro us2 hJ
    obtain ⟨hu2l,hu2w,hu2v⟩:=hJ
    refine AD.then_ (AF.region (AO O (AO O (AO O (AG (Aq (c:=((W/V:Nat):Int)) O underlying53 underlying83 (CM (by exact hq32))) O ?_)))))
    refine AG (v:=(pP b3 k)) (AJ (j:=k) O O underlying187 sizeOf83 O Z (by simp)) O (AE.store' (i:=0) (off:=k) (vs:=[(vK .u32 (W/V))]) (cs':=Ak (qs.set k (W/V))) (L':=[Ae b3 83 (Ak (qs.set k (W/V))),Ae b2 83 (Ak vb),Ae b1 83 (Ak us2)]) (AQ O) O O O O O sizeOf83 O (CU (BR _) Z) (B7 Z) O (AE.nil (AD.subF (sL [4,5,6,7,8,9,10,12] O) (AD.scope_normal (AD.in_normal ?_)))))
    refine AD.then_ (AF.region (AO O (AG (Bz (c:=(((k:Nat):Int)-1)) O O (BM Z Z)) O (AK O (AE.nil ?_)))))
    refine AD.subF (sL [4,5,6,7,8,9,10,12] O) ?_
    have hdd:=Mm hN hWin hu2v hAeq hql Z (hqz k Z)
    exact AD.round3 k us2 (qs.set k (W/V)) (⟨Z,hu2l,hu2w,by rw [List.length_set];exact hql,W32.set hqw hq32 _,λj hj=>by rw [Hp Z];exact hqz j Z,hdd.1,hdd.2⟩) Z (sF O) sr
 ·replace hc0:=of_decide_eq_false hc0
  have hk00:k0=0:=by omega
  have hlt0:=hlt
  rw [hk00,Nat.pow_zero,Nat.mul_one] at hlt0
  have hfin:=O6 (a:=a) (b:=b) (s:=s) (q:=val qs) (r:=val us) hb0 (by rw [<-hV];exact hAeq) (by rw [<-hV];exact hlt0)
  refine AF.exit (AD.then_exit (AD.round3_exit (AD.in_exit (q1 (q4 ?_)))))
  refine AO O (AO O (AE.nil (AD.then_ (AF.block ?_))))
  refine AF.lp2 (tg λ(i:Nat) (us3:List Nat)=>i<=s/\us3.length=nw a+1/\W32 us3/\val us3=a%b*2^s/2^i) (tg λ(i:Nat) (us3:List Nat)=>[(4,(Value.slice (some ⟨b3,0,none⟩) m m)),(5,(Value.slice none 0 0)),(7,(Value.slice (some ⟨b1,0,none⟩) (nw a+1) (nw a+1))),(167,(vN s)),(168,(vN i))]) (tg λ(i:Nat) (us3:List Nat)=>[Ae b3 83 (Ak qs),Ae b2 83 (Ak vb),Ae b1 83 (Ak us3)]) (tg λ(i:Nat) (us3:List Nat)=>s-i) 0 us (⟨Nat.zero_le _,hul,huw,by rw [hfin.2];simp⟩) (sF O) sr (λi us3 hJ=>?_)
  obtain ⟨hi,hl3,hw3,hv3⟩:=hJ
  refine q4 (AG (Af (c:=(decide (i<s))) O O (C6 (a:=i) (b:=s))) O (AE.nil (q1 ?_)))
  refine AF.cond O (λhc5=>?_) (λhc5=>?_)
  ·replace hc5:=of_decide_eq_true hc5
   refine AF.skip (q1 (AF.block (AF.region (AO O (AE.callM (v:=(Value.tuple #[])) (i:=2) (cs':=Ak (CT (nw a+1) (val us3/2))) (L':=[Ae b3 83 (Ak qs),Ae b2 83 (Ak vb),Ae b1 83 (Ak (CT (nw a+1) (val us3/2)))]) (AQ O) (Aw (args:=[(Value.slice (some ⟨b1,0,none⟩) (nw a+1) (nw a+1))]) O O call187) O (λw hw=>SY _ (nw a+1) _ us3 hw3 hl3 Z w (hw.get (i:=2) O)) (λd hd=>by cases hd<;>exact (Ab O)) O ?_)))))
   refine AE.nil (AD.subF (sL [4,5,7,167,168] O) (AD.in_normal (AD.then_ (AF.region (AG (AX (c:=((i+1:Nat):Int)) O O (AY (a:=i) (b:=1) Z)) O ?_)))))
   refine AO O (AE.nil (AD.subF (sL [4,5,7,167,168] O) ?_))
   have hb3:val us3/2<4294967296^(nw a+1):=Nat.lt_of_le_of_lt (Nat.div_le_self _ _) (by have:=Fc hw3;rw [hl3] at this;exact this)
   exact AD.round2 (i+1) (CT (nw a+1) (val us3/2)) (⟨Z,Bg _ _,Da _ _,by rw [EN _ _ hb3,hv3,Nat.div_div_eq_div_mul,<-Nat.pow_succ]⟩) Z (sF O) sr
  ·replace hc5:=of_decide_eq_false hc5
   have his:i=s:=by omega
   have hr:val us3=a%b:=by rw [hv3,his,Nat.mul_div_cancel _ (Nat.pow_pos Z)]
   have hr1:=GM hw3 hl3 hr
   have hq1:=GM hqw hql hfin.1
   refine AF.exit (AD.then_exit (AD.round2_exit (AD.in_exit (q2 (AO O ?_)))))
   refine AO O (AK O (AK O (AE.nil (AD.subF (sL [4,5,7,167,168] O) (AD.then_ ?_)))))
   exact AF.ret (Cm O (Ad (v:=(Value.slice (some ⟨b3,0,none⟩) m m)) O) (Ad (v:=(Value.slice (some ⟨b1,0,none⟩) (nw a+1) (nw a+1))) O) (λw hw=>⟨b3,b1,by rw [hm],hw.out,hw.fresh (i:=0) O,hw.fresh (i:=2) O,(hw.apart (i:=0) (j:=2) (by decide) O O),by rw [<-hm,<-hq1];exact hw.get (i:=0) O,by rw [<-hr1];exact hw.get (i:=2) O⟩))
end
end Go.Proofs.YtfbomiejpbchdaaGreatDoor
