import Derived.Test.YtpgncndhhhllfaaGreatDoorPart06
import Derived.Test.YtpgncndhhhllfaaGreatDoorPart15
import Derived.Test.YtpgncndhhhllfaaGreatDoorPart16
namespace Go.Proofs.YtpgncndhhhllfaaGreatDoor
open Go Go.RowKit Go.Proofs.Tryz
set_option linter.unusedVariables false
set_option linter.unusedSimpArgs false
section
set_option maxRecDepth 100000
theorem M7 {R P D Q X:Nat} (h1:D=Q+X) (h2:Q<=R) (h3:R<P) (h4:R<D) (h5:X<=P):R+P-D+X=R-Q+P:=by omega
theorem Tw (a b p q c1 c2:Nat) (ha:nw a<=1099511627776) (hb2:2<=nw b) (hba:nw b<=nw a) (w:World) (hp:w.heap[p]?=some (.cells (Ao (Ay a)).toArray 97 (0,0))) (hq:w.heap[q]?=some (.cells (Ao (Ay b)).toArray 97 (0,0))):Calls Tryz.prog 169 #[(Value.slice (some ⟨p,0,none⟩) (nw a) c1),(Value.slice (some ⟨q,0,none⟩) (nw b) c2)] w (λe w'=>∃b1 b2,e=.returned (.tuple #[.slice (some ⟨b1,0,none⟩) (nw a+1-nw b) (nw a+1-nw b),.slice (some ⟨b2,0,none⟩) (nw a+1) (nw a+1)])/\Dz w.heap.size w w'/\w.heap.size<=b1/\w.heap.size<=b2/\b1≠b2/\w'.heap[b1]?=some (.cells (Ao (CK (nw a+1-nw b) (a/b))).toArray 97 (0,0))/\w'.heap[b2]?=some (.cells (Ao (CK (nw a+1) (a%b))).toArray 97 (0,0))):=by
 have hla:=B7 a
 have hlb:=B7 b
 have hb0:0<b:=Nat.pos_of_ne_zero (λh=>by rw [h,Kg] at hb2;omega)
 obtain ⟨s,hs⟩:∃s,s=32-bl ((AP b).getD (nw b-1) 0):=⟨_,rfl⟩
 obtain ⟨hs32,hlow,hhigh⟩:=U8 (by omega) hs
 obtain ⟨m,hm⟩:∃m,m=nw a+1-nw b:=⟨_,rfl⟩
 obtain ⟨V,hV⟩:∃V,V=b*2^s:=⟨_,rfl⟩
 obtain ⟨vb,hvb⟩:∃vb,vb=CK (nw b+1) (b*2^s):=⟨_,rfl⟩
 have hbig:b*2^s<4294967296^(nw b+1):=Nat.lt_of_lt_of_le hhigh (Nat.pow_le_pow_right (by omega) (by omega))
 have hN:M1 vb (nw b) V:=⟨by rw [hvb];exact DL _ _,by rw [hvb];exact BZ _ _,hb2,by rw [hvb,hV];exact EO _ _ hbig,by rw [hV];exact hlow,by rw [hV];exact hhigh⟩
 have hst:=Np rfl (by omega) hs32 hlow hm hba
 have hA:val (CK (nw a+1) (a*2^s))=a*2^s:=EO _ _ (by rw [Nat.pow_succ];exact Nat.mul_lt_mul_of_lt_of_le (Bg a) (Nat.le_trans (Nat.pow_le_pow_right (by omega) (show s<=32 by omega)) (by decide)) (by omega))
 have hvlen:=hN.len
 have htop:=hN.top
 have htw:=(L1 (b:=b) (by omega)).2.2
 refine Aa (args:=[(Value.slice (some ⟨p,0,none⟩) (nw a) c1),(Value.slice (some ⟨q,0,none⟩) (nw b) c2)]) Tryz.func169 rfl rfl (AV rfl) (AE.subF (sL [0,1] rfl) (q4 (asg' rfl (asg' rfl (AD.nil ?_)))))
 refine q2 (AQ rfl (AQ rfl (AK (v:=(vN (nw b))) (AF rfl Tryz.underlying184) rfl (AK (BQ (c:=(((nw b)-1:Nat):Int)) rfl rfl (Bv (a:=nw b) (b:=1) (by omega) (by omega))) rfl (AK (v:=(pP q ((nw b)-1))) (AM (j:=(nw b)-1) rfl rfl Tryz.underlying184 Tryz.sizeOf97 rfl (by omega) (by simp)) rfl ?_)))))
 have hx1:(Ay b).getD ((nw b)-1) 0<4294967296:=W32.getD (B9 b) ((nw b)-1)
 refine AK (BO (v:=(vK .u32 ((Ay b).getD ((nw b)-1) 0))) rfl (λw' hw=>CA.at0 (hw.oldCA (by simp) (EU hq)) (BD (xs:=Ay b) (j:=((nw b)-1)) (by omega))) Tryz.isAgg97) rfl (AD.retell (k:=22) (u:=(vK .u32 ((AP b).getD (nw b-1) 0))) rfl (by rw [C5 (by omega)]) (ck' Tryz.call219 (Ur ((AP b).getD (nw b-1) 0) (by omega)) rfl (AD.retell (k:=23) (u:=(vN s)) rfl (by rw [hs]) (asg' rfl (q6 (sL [0,1,4,5,6] rfl) ?_)))))
 refine CS [(0,true),(1,true),(3,true),(4,true),(6,true),(7,true),(2,false),(5,false),(8,true),(9,true),(10,true)] sr (BT rfl (BT rfl (BT rfl (BT rfl (BT rfl ?_)))))
 refine Ap (v:=(vN (nw b))) rfl (AF rfl Tryz.underlying184) (OkE.imp rfl (AD.callB (V:=λb1=>(Value.slice (some ⟨b1,0,none⟩) (nw a+1) (nw a+1))) (T:=97) (cs:=Ao (CK (nw a+1) (a*2^s))) (AW rfl) (An (args:=[(Value.slice (some ⟨p,0,none⟩) (nw a) c1),(vN s)]) rfl rfl Tryz.call220) (λw hw=>(by have h:=I8 p (nw a) c1 s (Ay a) (B9 a) hla (by omega) hs32 w (hw.old (by simp) hp);rw [Gu] at h;exact h)) rfl (AV rfl) λb1=>OkE.back (sl sr) (OkE.imp rfl (AD.callB (V:=λb2=>(Value.slice (some ⟨b2,0,none⟩) (nw b+1) (nw b+1))) (T:=97) (cs:=Ao vb) (AW rfl) (An (args:=[(Value.slice (some ⟨q,0,none⟩) (nw b) c2),(vN s)]) rfl rfl Tryz.call220) (λw hw=>(by have h:=I8 q (nw b) c2 s (Ay b) (B9 b) hlb (by omega) hs32 w (hw.old (by simp) hq);rw [Gu,<-hvb] at h;exact h)) rfl (AV rfl) λb2=>?_))))
 refine OkE.back (sl (sl sr)) (Ap (v:=(Value.slice (some ⟨b2,0,none⟩) (nw b) (nw b+1))) rfl (Fh (m:=nw b) rfl rfl Tryz.underlying184 Tryz.sizeOf97 (by omega)) (pS' rfl (pS' rfl (OkE.nil (AC.subF (sL [1,4,5,6,7,8] rfl) ?_)))))
 refine q2 (AQ rfl (AK (v:=(vN (nw b))) (AF rfl Tryz.underlying184) rfl (asg' rfl (q3 (sL [1,4,5,6,7,8,9] rfl) (AQ rfl ?_)))))
 refine AK (v:=(vN (nw a+1))) (AF rfl Tryz.underlying184) rfl (AQ rfl (AK (BQ (c:=(((nw a+1)-(nw b):Nat):Int)) rfl rfl (Bv (a:=nw a+1) (b:=nw b) (by omega) (by omega))) rfl (AD.retell (k:=38) (u:=(vN m)) rfl (by rw [hm]) (AD.openV (V:=λb3=>(Value.slice (some ⟨b3,0,none⟩) m m)) (T:=97) (cs:=Ao (List.replicate m 0)) (AW rfl) (Cp (m:=m) (c:=m) rfl rfl (by omega) (by omega)) rfl (AV rfl) λb3=>asg' rfl ?_))))
 refine q6 (sL [1,4,5,6,7,8,9] rfl) (q4 (AQ rfl (AK (v:=(vN m)) (AF rfl Tryz.underlying184) rfl (AK (BQ (c:=(((m:Nat):Int)-1)) rfl rfl (BS (by omega) (by omega))) rfl (asg' rfl ?_)))))
 refine AD.nil (AC.subF (sL [1,4,5,6,7,8,9,10] rfl) (AC.then_ (AE.block ?_)))
 refine AE.lp3 (tg λ(k0:Nat) (us:List Nat) (qs:List Nat)=>k0<=m/\us.length=nw a+1/\W32 us/\qs.length=m/\W32 qs/\(∀j,j<k0->qs.getD j 0=0)/\val us<V*4294967296^k0/\a*2^s=val qs*V+val us) (tg λ(k0:Nat) (us:List Nat) (qs:List Nat)=>[(4,(Value.slice (some ⟨b3,0,none⟩) m m)),(5,(Value.slice none 0 0)),(6,(vN s)),(7,(Value.slice (some ⟨b1,0,none⟩) (nw a+1) (nw a+1))),(8,(Value.slice (some ⟨b2,0,none⟩) (nw b) (nw b+1))),(9,(vN (nw b))),(10,(vI (((k0:Nat):Int)-1)))]) (tg λ(k0:Nat) (us:List Nat) (qs:List Nat)=>[Ad b3 97 (Ao qs),Ad b2 97 (Ao vb),Ad b1 97 (Ao us)]) (tg λ(k0:Nat) (us:List Nat) (qs:List Nat)=>k0) m (CK (nw a+1) (a*2^s)) (List.replicate m 0) (⟨Nat.le_refl _,BZ _ _,DL _ _,by simp,W32.zeros _,λj _=>by simp [List.getD_eq_getElem?_getD,List.getElem?_replicate];split<;>rfl,by rw [hA,hV];exact hst,by rw [hA,Dh];simp⟩) (sF rfl) sr (λk0 us qs hJ=>?_)
 obtain ⟨hk0,hul,huw,hql,hqw,hqz,hlt,hAeq⟩:=hJ
 refine AE.seq (q4 (AQ rfl (AK (DH (c:=(decide ((0:Int)<=(((k0:Nat):Int)-1)))) rfl rfl rfl) rfl (AD.nil (AC.subF (sL [4,5,6,7,8,9,10,44] rfl) ?_)))))
 refine AC.then_ ?_
 refine AE.cond rfl (λhc0=>?_) (λhc0=>?_)
 ·replace hc0:=of_decide_eq_true hc0
  obtain ⟨k,rfl⟩:∃k,k0=k+1:=⟨k0-1,by omega⟩
  obtain ⟨top,htp⟩:∃t,t=us.getD (k+nw b) 0*4294967296+us.getD (k+nw b-1) 0:=⟨_,rfl⟩
  obtain ⟨W,hWd⟩:∃x,x=val us/4294967296^k:=⟨_,rfl⟩
  have hWin:=Vz hN huw hlt
  rw [<-htp,<-hWd] at hWin
  have hu2:=huw.getD (k+nw b-2)
  have hG0:=Ly hN hWin hu2
  have htb:=hWin.topb
  have hq32:=hWin.quo_lt hN.pos
  refine AE.retell (k:=10) (u:=(vN k)) rfl (by congr 1;omega) (AE.skip (q1 (AE.block (AE.scope (AE.seq ?_)))))
  refine CS [(0,true),(1,true),(2,true),(3,true),(4,true),(5,true),(6,true),(7,true),(8,true),(9,true),(10,true),(11,true),(12,true),(13,true),(14,true),(15,true),(16,true),(17,true)] sr (BT rfl (BT rfl (BT rfl (Ap rfl (Ac (c:=((k+(nw b):Nat):Int)) rfl rfl (Ae (a:=k) (b:=nw b) (by omega))) (Ap (v:=(pP b1 (k+(nw b)))) rfl (AM (j:=k+(nw b)) rfl rfl Tryz.underlying184 Tryz.sizeOf97 rfl (by omega) (by simp)) ?_)))))
  have hx2:us.getD (k+(nw b)) 0<4294967296:=W32.getD huw (k+(nw b))
  refine Ap rfl (AL (i:=2) (v:=(vK .u32 (us.getD (k+(nw b)) 0))) rfl rfl Tryz.isAgg97 (BD (xs:=us) (j:=(k+(nw b))) (by omega))) (Ap rfl (A6 (c:=((us.getD (k+(nw b)) 0:Nat):Int)) rfl Tryz.underlying97 Tryz.underlying40 (BK (by omega))) (Ap (v:=(vK .u64 (us.getD (k+nw b) 0*4294967296))) rfl (Fa (s:=32) rfl rfl rfl (by decide) (Fo (s:=32) (by omega))) (BT rfl (BT rfl (BT rfl ?_)))))
  refine Ap rfl (Ac (c:=((k+(nw b):Nat):Int)) rfl rfl (Ae (a:=k) (b:=nw b) (by omega))) (Ap rfl (BQ (c:=(((k+(nw b))-1:Nat):Int)) rfl rfl (Bv (a:=k+(nw b)) (b:=1) (by omega) (by omega))) (Ap (v:=(pP b1 ((k+(nw b))-1))) rfl (AM (j:=(k+(nw b))-1) rfl rfl Tryz.underlying184 Tryz.sizeOf97 rfl (by omega) (by simp)) ?_))
  have hx3:us.getD ((k+(nw b))-1) 0<4294967296:=W32.getD huw ((k+(nw b))-1)
  refine Ap rfl (AL (i:=2) (v:=(vK .u32 (us.getD ((k+(nw b))-1) 0))) rfl rfl Tryz.isAgg97 (BD (xs:=us) (j:=((k+(nw b))-1)) (by omega))) (Ap rfl (A6 (c:=((us.getD ((k+(nw b))-1) 0:Nat):Int)) rfl Tryz.underlying97 Tryz.underlying40 (BK (by omega))) (Ap rfl (H7 (c:=((top:Nat):Int)) rfl rfl (IM (by omega) (by omega) (((Nat.or_comm _ _).trans ((Gp (s:=32) (by omega)).trans (Nat.add_comm _ _))).trans htp.symm))) (pS' rfl (OkE.nil (AC.subF (sL [4,5,6,7,8,9,10,11] rfl) ?_)))))
  refine q1 (CS [(0,true),(1,true),(2,true),(3,true),(4,true),(5,true),(6,true),(7,true),(8,true),(9,true),(10,true),(11,true),(12,true),(13,true),(14,true),(15,true),(16,true),(17,true)] sr (BT rfl (BT rfl (BT rfl (Ap rfl (BQ (c:=(((nw b)-1:Nat):Int)) rfl rfl (Bv (a:=nw b) (b:=1) (by omega) (by omega))) ?_)))))
  refine Ap (v:=(pP b2 ((nw b)-1))) rfl (AM (j:=(nw b)-1) rfl rfl Tryz.underlying184 Tryz.sizeOf97 rfl (by omega) (by simp)) ?_
  have hx4:vb.getD ((nw b)-1) 0<4294967296:=W32.getD hN.w32 ((nw b)-1)
  refine Ap rfl (AL (i:=1) (v:=(vK .u32 (vb.getD ((nw b)-1) 0))) rfl rfl Tryz.isAgg97 (BD (xs:=vb) (j:=((nw b)-1)) (by omega))) (Ap rfl (A6 (c:=((vb.getD ((nw b)-1) 0:Nat):Int)) rfl Tryz.underlying97 Tryz.underlying40 (BK (by omega))) (Ap rfl (EH (c:=((top/(vb.getD ((nw b)-1) 0):Nat):Int)) rfl rfl (by omega) (G1 (a:=top) (b:=vb.getD ((nw b)-1) 0) (by omega))) (BT rfl (BT rfl (BT rfl ?_)))))
  refine Ap rfl (BQ (c:=(((nw b)-1:Nat):Int)) rfl rfl (Bv (a:=nw b) (b:=1) (by omega) (by omega))) (Ap (v:=(pP b2 ((nw b)-1))) rfl (AM (j:=(nw b)-1) rfl rfl Tryz.underlying184 Tryz.sizeOf97 rfl (by omega) (by simp)) ?_)
  have hx5:vb.getD ((nw b)-1) 0<4294967296:=W32.getD hN.w32 ((nw b)-1)
  refine Ap rfl (AL (i:=1) (v:=(vK .u32 (vb.getD ((nw b)-1) 0))) rfl rfl Tryz.isAgg97 (BD (xs:=vb) (j:=((nw b)-1)) (by omega))) (Ap rfl (A6 (c:=((vb.getD ((nw b)-1) 0:Nat):Int)) rfl Tryz.underlying97 Tryz.underlying40 (BK (by omega))) (Ap rfl (Cb (c:=((top%(vb.getD ((nw b)-1) 0):Nat):Int)) rfl rfl (by omega) (Jm (a:=top) (b:=vb.getD ((nw b)-1) 0))) (pS' rfl (pS' rfl (OkE.nil ?_)))))
  refine AC.subF (sL [4,5,6,7,8,9,10,12,13] rfl) (q1 (AE.label (q1 ?_)))
  refine AE.jn1 (tg λ(d:Nat)=>d<=4294967295/\(d=W/V\/d=W/V+1)) (tg λ(d:Nat)=>[(4,(Value.slice (some ⟨b3,0,none⟩) m m)),(5,(Value.slice none 0 0)),(6,(vN s)),(7,(Value.slice (some ⟨b1,0,none⟩) (nw a+1) (nw a+1))),(8,(Value.slice (some ⟨b2,0,none⟩) (nw b) (nw b+1))),(9,(vN (nw b))),(10,(vN k)),(12,(vK .u64 d))]) (tg λ(d:Nat)=>[Ad b3 97 (Ao qs),Ad b2 97 (Ao vb),Ad b1 97 (Ao us)]) ?_ ?_
  ·skip
   refine AE.block ?_
   refine AE.lp2 (tg λ(d:Nat) (r:Nat)=>G6 V W (vb.getD (nw b-1) 0) top d r/\r<8589934592/\d<8589934593) (tg λ(d:Nat) (r:Nat)=>[(4,(Value.slice (some ⟨b3,0,none⟩) m m)),(5,(Value.slice none 0 0)),(6,(vN s)),(7,(Value.slice (some ⟨b1,0,none⟩) (nw a+1) (nw a+1))),(8,(Value.slice (some ⟨b2,0,none⟩) (nw b) (nw b+1))),(9,(vN (nw b))),(10,(vN k)),(12,(vK .u64 d)),(13,(vK .u64 r))]) (tg λ(d:Nat) (r:Nat)=>[Ad b3 97 (Ao qs),Ad b2 97 (Ao vb),Ad b1 97 (Ao us)]) (tg λ(d:Nat) (r:Nat)=>d) (top/vb.getD (nw b-1) 0) (top%vb.getD (nw b-1) 0) (⟨hG0,by have:=Nat.mod_lt top (show vb.getD (nw b-1) 0>0 by omega);omega,Nat.div_lt_of_lt_mul (by omega)⟩) (sF rfl) sr (λd r hJ=>?_)
   obtain ⟨hG,hr2,hd2⟩:=hJ
   refine AE.seq (q4 (AQ rfl (AK (FH (c:=(decide (r<=4294967295))) rfl rfl (S_ (a:=r) (b:=4294967295))) rfl (AD.nil (AC.subF (sL [4,5,6,7,8,9,10,12,13,81] rfl) ?_)))))
   refine AC.then_ ?_
   refine AE.cond rfl (λhc1=>?_) (λhc1=>?_)
   ·replace hc1:=of_decide_eq_true hc1
    refine AE.skip (AC.then_ (AE.block (AE.seq (AE.seq ?_))))
    by_cases hsp:d<=4294967295
    ·skip
     have hv2:=hN.w32.getD (nw b-2)
     have hml:=I2 (a:=d) (b:=vb.getD (nw b-2) 0) (by omega) hv2
     refine CS [(0,true),(1,true),(2,true),(3,true),(4,true),(5,true),(6,true),(7,true),(8,true),(9,true),(10,true),(11,true),(12,true),(13,true),(14,true),(15,true),(16,true),(17,true),(18,true),(19,true),(20,true),(21,true),(22,true),(23,true)] sr (BT rfl (Ap rfl (FH (c:=true) rfl rfl (S_.trans (decide_eq_true hsp))) (BT rfl (OkE.pas (v:=(vK .u64 d)) rfl (AB rfl) (A9 rfl) rfl rfl (OkE.pas (v:=(Value.slice (some ⟨b2,0,none⟩) (nw b) (nw b+1))) rfl (AB rfl) (A9 rfl) rfl rfl ?_)))))
     refine OkE.pas (v:=(vN (nw b))) rfl (AB rfl) (A9 rfl) rfl rfl (OkE.pas (v:=(vN ((nw b)-2))) rfl (AB rfl) (BQ (c:=(((nw b)-2:Nat):Int)) rfl rfl (Bv (a:=nw b) (b:=2) (by omega) (by omega))) rfl rfl (OkE.pas (v:=(pP b2 ((nw b)-2))) rfl (AB rfl) (AM (j:=(nw b)-2) rfl rfl Tryz.underlying184 Tryz.sizeOf97 rfl (by omega) (by simp)) rfl rfl ?_))
     have hx6:vb.getD ((nw b)-2) 0<4294967296:=W32.getD hN.w32 ((nw b)-2)
     refine OkE.pas (v:=(vK .u32 (vb.getD ((nw b)-2) 0))) rfl (AB rfl) (AL (i:=1) (v:=(vK .u32 (vb.getD ((nw b)-2) 0))) rfl rfl Tryz.isAgg97 (BD (xs:=vb) (j:=((nw b)-2)) (by omega))) rfl rfl (OkE.pas (v:=(vK .u64 (vb.getD ((nw b)-2) 0))) rfl (AB rfl) (A6 (c:=((vb.getD ((nw b)-2) 0:Nat):Int)) rfl Tryz.underlying97 Tryz.underlying40 (BK (by omega))) rfl rfl (OkE.pas (v:=(vK .u64 (d*(vb.getD ((nw b)-2) 0)))) rfl (AB rfl) (DQ (c:=((d*(vb.getD ((nw b)-2) 0):Nat):Int)) rfl rfl (ED (a:=d) (b:=vb.getD ((nw b)-2) 0) (by omega))) rfl rfl (OkE.pas (v:=(vK .u64 r)) rfl (AB rfl) (A9 rfl) rfl rfl (OkE.pas (v:=(vK .u64 (r*4294967296))) rfl (AB rfl) (Fa (s:=32) rfl rfl rfl (by decide) (Fo (s:=32) (by omega))) rfl rfl (OkE.pas (v:=(Value.slice (some ⟨b1,0,none⟩) (nw a+1) (nw a+1))) rfl (AB rfl) (A9 rfl) rfl rfl ?_)))))
     refine OkE.pas (v:=(vN k)) rfl (AB rfl) (A9 rfl) rfl rfl (OkE.pas (v:=(vN (nw b))) rfl (AB rfl) (A9 rfl) rfl rfl (OkE.pas (v:=(vN (k+(nw b)))) rfl (AB rfl) (Ac (c:=((k+(nw b):Nat):Int)) rfl rfl (Ae (a:=k) (b:=nw b) (by omega))) rfl rfl (OkE.pas (v:=(vN ((k+(nw b))-2))) rfl (AB rfl) (BQ (c:=(((k+(nw b))-2:Nat):Int)) rfl rfl (Bv (a:=k+(nw b)) (b:=2) (by omega) (by omega))) rfl rfl (OkE.pas (v:=(pP b1 ((k+(nw b))-2))) rfl (AB rfl) (AM (j:=(k+(nw b))-2) rfl rfl Tryz.underlying184 Tryz.sizeOf97 rfl (by omega) (by simp)) rfl rfl ?_))))
     have hx7:us.getD ((k+(nw b))-2) 0<4294967296:=W32.getD huw ((k+(nw b))-2)
     refine OkE.pas (v:=(vK .u32 (us.getD ((k+(nw b))-2) 0))) rfl (AB rfl) (AL (i:=2) (v:=(vK .u32 (us.getD ((k+(nw b))-2) 0))) rfl rfl Tryz.isAgg97 (BD (xs:=us) (j:=((k+(nw b))-2)) (by omega))) rfl rfl (OkE.pas (v:=(vK .u64 (us.getD ((k+(nw b))-2) 0))) rfl (AB rfl) (A6 (c:=((us.getD ((k+(nw b))-2) 0:Nat):Int)) rfl Tryz.underlying97 Tryz.underlying40 (BK (by omega))) rfl rfl (OkE.pas (v:=(vK .u64 (r*4294967296+us.getD (k+nw b-2) 0))) rfl (AB rfl) (H7 (c:=((r*4294967296+us.getD (k+nw b-2) 0:Nat):Int)) rfl rfl (IM (by omega) (by omega) (((Nat.or_comm _ _).trans ((Gp (s:=32) (by omega)).trans (Nat.add_comm _ _)))))) rfl rfl (OkE.pas (v:=(Value.bool (decide ((d*(vb.getD ((nw b)-2) 0))<=(r*4294967296+us.getD (k+nw b-2) 0))))) rfl (AB rfl) (FH (c:=(decide ((d*(vb.getD ((nw b)-2) 0))<=(r*4294967296+us.getD (k+nw b-2) 0)))) rfl rfl (S_ (a:=d*(vb.getD ((nw b)-2) 0)) (b:=r*4294967296+us.getD (k+nw b-2) 0))) rfl rfl (Ap (v:=(Value.bool (decide ((d*(vb.getD ((nw b)-2) 0))<=(r*4294967296+us.getD (k+nw b-2) 0))))) rfl (AX rfl rfl) (OkE.nil ?_)))))
     refine AC.subF (sL [4,5,6,7,8,9,10,12,13,105] rfl) (AC.then_ ?_)
     refine AE.cond rfl (λhc2=>?_) (λhc2=>?_)
     ·replace hc2:=of_decide_eq_true hc2
      have hg:=JR hN hWin hG (.inr ⟨hsp,hc2⟩)
      exact AE.exit (AC.then_exit (AC.in_exit_ne rfl (AC.round2_exit (AC.in_exit (AC.join1 d (hg) (sF rfl) sr)))))
     ·replace hc2:=of_decide_eq_false hc2
      obtain ⟨hng1,hng2⟩:=I7 hN hWin hG (λh=>hc2 h.2)
      refine AE.skip (q2 (AQ rfl (AK (BQ (c:=((d-1:Nat):Int)) rfl rfl (HB (a:=d) (b:=1) (by omega) (by omega))) rfl (asg' rfl (AD.nil ?_)))))
      refine AC.subF (sL [4,5,6,7,8,9,10,12,13] rfl) (AC.then_ (AE.region (AQ rfl (AQ rfl (AQ rfl ?_)))))
      refine AK (BQ (c:=(((nw b)-1:Nat):Int)) rfl rfl (Bv (a:=nw b) (b:=1) (by omega) (by omega))) rfl (AK (v:=(pP b2 ((nw b)-1))) (AM (j:=(nw b)-1) rfl rfl Tryz.underlying184 Tryz.sizeOf97 rfl (by omega) (by simp)) rfl ?_)
      have hx8:vb.getD ((nw b)-1) 0<4294967296:=W32.getD hN.w32 ((nw b)-1)
      refine AK (AL (i:=1) (v:=(vK .u32 (vb.getD ((nw b)-1) 0))) rfl rfl Tryz.isAgg97 (BD (xs:=vb) (j:=((nw b)-1)) (by omega))) rfl (AK (A6 (c:=((vb.getD ((nw b)-1) 0:Nat):Int)) rfl Tryz.underlying97 Tryz.underlying40 (BK (by omega))) rfl (AK (Ac (c:=((r+(vb.getD ((nw b)-1) 0):Nat):Int)) rfl rfl (C9 (a:=r) (b:=vb.getD ((nw b)-1) 0) (by omega))) rfl (asg' rfl (AD.nil (AC.subF (sL [4,5,6,7,8,9,10,12,13] rfl) ?_)))))
      exact AC.in_normal (AC.round2 (d-1) (r+vb.getD (nw b-1) 0) (⟨hng1,by omega,by omega⟩) (by omega) (sF rfl) sr)
    ·skip
     obtain ⟨hng1,hng2⟩:=I7 hN hWin hG (λh=>hsp h.1)
     refine CS [(0,true),(1,true),(2,true),(3,true),(4,true),(5,true),(6,true),(7,true),(8,true),(9,true),(10,true),(11,true),(12,true),(13,true),(14,true),(15,true),(16,true),(17,true),(18,true),(19,true),(20,true),(21,true),(22,true),(23,true)] sr (BT rfl (Ap rfl (FH (c:=false) rfl rfl (S_.trans (decide_eq_false hsp))) (BT rfl (OkE.skp rfl (AH rfl) rfl rfl (OkE.skp rfl (AH rfl) rfl rfl ?_)))))
     refine OkE.skp rfl (AH rfl) rfl rfl (OkE.skp rfl (AH rfl) rfl rfl (OkE.skp rfl (AH rfl) rfl rfl (OkE.skp rfl (AH rfl) rfl rfl (OkE.skp rfl (AH rfl) rfl rfl (OkE.skp rfl (AH rfl) rfl rfl ?_)))))
     refine OkE.skp rfl (AH rfl) rfl rfl (OkE.skp rfl (AH rfl) rfl rfl (OkE.skp rfl (AH rfl) rfl rfl (OkE.skp rfl (AH rfl) rfl rfl (OkE.skp rfl (AH rfl) rfl rfl (OkE.skp rfl (AH rfl) rfl rfl ?_)))))
     refine OkE.skp rfl (AH rfl) rfl rfl (OkE.skp rfl (AH rfl) rfl rfl (OkE.skp rfl (AH rfl) rfl rfl (OkE.skp rfl (AH rfl) rfl rfl (OkE.skp rfl (AH rfl) rfl rfl (OkE.skp rfl (AH rfl) rfl rfl ?_)))))
     refine Ap (v:=(Value.bool false)) rfl (AR rfl rfl) (OkE.nil (AC.subF (sL [4,5,6,7,8,9,10,12,13,105] rfl) (AC.then_ (AE.cond_false rfl (AE.skip ?_)))))
     refine q2 (AQ rfl (AK (BQ (c:=((d-1:Nat):Int)) rfl rfl (HB (a:=d) (b:=1) (by omega) (by omega))) rfl (asg' rfl (AD.nil (AC.subF (sL [4,5,6,7,8,9,10,12,13] rfl) ?_)))))
     refine AC.then_ (AE.region (AQ rfl (AQ rfl (AQ rfl (AK (BQ (c:=(((nw b)-1:Nat):Int)) rfl rfl (Bv (a:=nw b) (b:=1) (by omega) (by omega))) rfl ?_)))))
     refine AK (v:=(pP b2 ((nw b)-1))) (AM (j:=(nw b)-1) rfl rfl Tryz.underlying184 Tryz.sizeOf97 rfl (by omega) (by simp)) rfl ?_
     have hx9:vb.getD ((nw b)-1) 0<4294967296:=W32.getD hN.w32 ((nw b)-1)
     refine AK (AL (i:=1) (v:=(vK .u32 (vb.getD ((nw b)-1) 0))) rfl rfl Tryz.isAgg97 (BD (xs:=vb) (j:=((nw b)-1)) (by omega))) rfl (AK (A6 (c:=((vb.getD ((nw b)-1) 0:Nat):Int)) rfl Tryz.underlying97 Tryz.underlying40 (BK (by omega))) rfl (AK (Ac (c:=((r+(vb.getD ((nw b)-1) 0):Nat):Int)) rfl rfl (C9 (a:=r) (b:=vb.getD ((nw b)-1) 0) (by omega))) rfl (asg' rfl (AD.nil (AC.subF (sL [4,5,6,7,8,9,10,12,13] rfl) ?_)))))
     exact AC.in_normal (AC.round2 (d-1) (r+vb.getD (nw b-1) 0) (⟨hng1,by omega,by omega⟩) (by omega) (sF rfl) sr)
   ·replace hc1:=of_decide_eq_false hc1
    have hg:=JR hN hWin hG (.inl (by omega))
    exact AE.exit (AC.then_exit (AC.round2_exit (AC.in_exit (AC.join1 d (hg) (sF rfl) sr))))
  ·intro d hJ
   obtain ⟨hdb,hdq⟩:=hJ
   refine q1 (q4 (AQ rfl (AQ rfl (AQ rfl (AQ rfl ?_)))))
   refine AK (Ac (c:=((k+(nw b):Nat):Int)) rfl rfl (Ae (a:=k) (b:=nw b) (by omega))) rfl (AK (Ac (c:=(((k+(nw b))+1:Nat):Int)) rfl rfl (Ae (a:=k+(nw b)) (b:=1) (by omega))) rfl (AK (v:=(Value.slice (some ⟨b1,k,none⟩) (((k+(nw b))+1)-k) ((nw a+1)-k))) (LG (i:=k) (m:=(k+(nw b))+1) rfl rfl rfl Tryz.underlying184 Tryz.sizeOf97 (by omega) (by omega) (by omega) (by simp)) rfl (AD.retell (k:=122) (u:=(Value.slice (some ⟨b1,k,none⟩) (nw b+1) ((nw a+1)-k))) rfl (by rw [show k+nw b+1-k=nw b+1 by omega]) (AQ rfl (AQ rfl ?_)))))
   refine AD.callM (v:=(Value.bool (decide (val us<d*val (vb.take (nw b))*4294967296^k)))) (i:=2) (cs':=Ao (CK (nw a+1) (val us+(if val us<d*val (vb.take (nw b))*4294967296^k then 4294967296^(k+nw b+1) else 0)-d*val (vb.take (nw b))*4294967296^k))) (L':=[Ad b3 97 (Ao qs),Ad b2 97 (Ao vb),Ad b1 97 (Ao (CK (nw a+1) (val us+(if val us<d*val (vb.take (nw b))*4294967296^k then 4294967296^(k+nw b+1) else 0)-d*val (vb.take (nw b))*4294967296^k)))]) (AW rfl) (An (args:=[(Value.slice (some ⟨b1,k,none⟩) (nw b+1) ((nw a+1)-k)),(Value.slice (some ⟨b2,0,none⟩) (nw b) (nw b+1)),(vK .u64 d)]) rfl rfl Tryz.call221) rfl (λw hw=>Th _ _ k (nw b) (nw a+1) _ _ d us vb huw hul hN.w32 (by omega) (by omega) (by omega) (by omega) hWin.fits ((hw.apart (i:=1) (j:=2) (by decide) rfl rfl)) w (hw.get (i:=2) rfl) (hw.get (i:=1) rfl)) (λd hd=>by cases hd<;>exact (AV rfl)) rfl (AD.nil (AC.subF (sL [4,5,6,7,8,9,10,12,125] rfl) (AC.then_ ?_)))
   refine AE.jn1 (tg λ(us2:List Nat)=>us2.length=nw a+1/\W32 us2/\val us2=val us-W/V*V*4294967296^k) (tg λ(us2:List Nat)=>[(4,(Value.slice (some ⟨b3,0,none⟩) m m)),(5,(Value.slice none 0 0)),(6,(vN s)),(7,(Value.slice (some ⟨b1,0,none⟩) (nw a+1) (nw a+1))),(8,(Value.slice (some ⟨b2,0,none⟩) (nw b) (nw b+1))),(9,(vN (nw b))),(10,(vN k)),(12,(vK .u64 (W/V)))]) (tg λ(us2:List Nat)=>[Ad b3 97 (Ao qs),Ad b2 97 (Ao vb),Ad b1 97 (Ao us2)]) ?_ ?_
   ·skip
    refine AE.cond rfl (λhc3=>?_) (λhc3=>?_)
    ·replace hc3:=of_decide_eq_true hc3
     have hP:4294967296^(k+nw b+1)<=4294967296^(nw a+1):=Nat.pow_le_pow_right (by omega) (by omega)
     rw [hN.take] at hc3
     obtain ⟨hde,hdS⟩:=N5 (vb:=vb) hWin hdq hc3
     have hXP:V*4294967296^k<=4294967296^(k+nw b+1):=Nat.le_trans (Nat.mul_le_mul_right _ (Nat.le_of_lt hN.high)) (by rw [<-Nat.pow_add];exact Nat.pow_le_pow_right (by omega) (by omega))
     have hqle:=Na (vb:=vb) hWin
     have hfit:=hWin.fits
     have hd1:1<=d:=by rw [hde];exact Nat.le_add_left _ _
     have hU1:val (CK (nw a+1) (val us+(if val us<d*val (vb.take (nw b))*4294967296^k then 4294967296^(k+nw b+1) else 0)-d*val (vb.take (nw b))*4294967296^k))=val us+4294967296^(k+nw b+1)-d*V*4294967296^k:=by rw [hN.take,if_pos hc3,EO _ _ (by omega)]
     have hU1lt:val (CK (nw a+1) (val us+(if val us<d*val (vb.take (nw b))*4294967296^k then 4294967296^(k+nw b+1) else 0)-d*val (vb.take (nw b))*4294967296^k))<4294967296^(k+nw b+1):=by rw [hU1];omega
     refine q4 (AQ rfl (AK (BQ (c:=((d-1:Nat):Int)) rfl rfl (HB (a:=d) (b:=1) (by omega) (by omega))) rfl (asg' rfl (q3 (sL [4,5,6,7,8,9,10,12] rfl) (asg' rfl ?_)))))
     refine AD.nil (q1 (q4 (AQ rfl (AK (v:=(vN (nw b))) (AF rfl Tryz.underlying184) rfl (AQ rfl ?_)))))
     refine AD.nil (AC.then_ (AE.block ?_))
     refine AE.lp3 (tg λ(i:Nat) (os:List Nat) (c:Nat)=>i<=nw b/\os.length=nw a+1/\W32 os/\c<=1/\(∀j,k+nw b+1<=j->os.getD j 0=0)/\val os+c*4294967296^(k+i)=(val us+4294967296^(k+nw b+1)-d*V*4294967296^k)+val (vb.take i)*4294967296^k) (tg λ(i:Nat) (os:List Nat) (c:Nat)=>[(4,(Value.slice (some ⟨b3,0,none⟩) m m)),(5,(Value.slice none 0 0)),(6,(vN s)),(7,(Value.slice (some ⟨b1,0,none⟩) (nw a+1) (nw a+1))),(8,(Value.slice (some ⟨b2,0,none⟩) (nw b) (nw b+1))),(9,(vN (nw b))),(10,(vN k)),(12,(vK .u64 (d-1))),(128,(Value.slice (some ⟨b2,0,none⟩) (nw b) (nw b+1))),(129,(vN (nw b))),(130,(vN i)),(14,(vK .u32 c))]) (tg λ(i:Nat) (os:List Nat) (c:Nat)=>[Ad b3 97 (Ao qs),Ad b2 97 (Ao vb),Ad b1 97 (Ao os)]) (tg λ(i:Nat) (os:List Nat) (c:Nat)=>nw b-i) 0 (CK (nw a+1) (val us+(if val us<d*val (vb.take (nw b))*4294967296^k then 4294967296^(k+nw b+1) else 0)-d*val (vb.take (nw b))*4294967296^k)) 0 (⟨Nat.zero_le _,BZ _ _,DL _ _,by omega,Hz hU1lt,by rw [hU1];simp [val]⟩) (sF rfl) sr (λi os c hJ=>?_)
     obtain ⟨hi,hl,hw32,hcc,hz,hv⟩:=hJ
     refine q4 (AK (Ai (c:=(decide (i<(nw b)))) rfl rfl (CI (a:=i) (b:=nw b))) rfl (AD.nil (q1 ?_)))
     refine AE.cond rfl (λhc4=>?_) (λhc4=>?_)
     ·replace hc4:=of_decide_eq_true hc4
      refine AE.skip (q1 (AE.block (q4 (AQ rfl (AK (v:=(pP b2 i)) (AM (j:=i) rfl rfl Tryz.underlying184 Tryz.sizeOf97 rfl (by omega) (by simp)) rfl ?_)))))
      have hx10:vb.getD i 0<4294967296:=W32.getD hN.w32 i
      refine AK (AL (i:=1) (v:=(vK .u32 (vb.getD i 0))) rfl rfl Tryz.isAgg97 (BD (xs:=vb) (j:=i) (by omega))) rfl (asg' rfl (asg' rfl (AD.nil (AC.subF (sL [4,5,6,7,8,9,10,12,128,129,130,14,15,16] rfl) (AC.then_ ?_)))))
      refine AE.region (AQ rfl (AQ rfl (AQ rfl (AK (Ac (c:=((k+i:Nat):Int)) rfl rfl (Ae (a:=k) (b:=i) (by omega))) rfl (AQ rfl ?_)))))
      refine AQ rfl (AQ rfl (AK (Ac (c:=((k+i:Nat):Int)) rfl rfl (Ae (a:=k) (b:=i) (by omega))) rfl (AK (v:=(pP b1 (k+i))) (AM (j:=k+i) rfl rfl Tryz.underlying184 Tryz.sizeOf97 rfl (by omega) (by simp)) rfl ?_)))
      have hx11:os.getD (k+i) 0<4294967296:=W32.getD hw32 (k+i)
      refine AK (AL (i:=2) (v:=(vK .u32 (os.getD (k+i) 0))) rfl rfl Tryz.isAgg97 (BD (xs:=os) (j:=(k+i)) (by omega))) rfl (AQ rfl (AQ rfl (ck' Tryz.call173 (JQ (os.getD (k+i) 0) (vb.getD i 0) c (by omega) (by omega) (by omega)) rfl (AQ rfl (AK (AZ (v:=(vK .u32 (((os.getD (k+i) 0)+(vb.getD i 0)+c)%4294967296))) rfl rfl) rfl ?_)))))
      refine AK (AZ (v:=(vK .u32 (((os.getD (k+i) 0)+(vb.getD i 0)+c)/4294967296))) rfl rfl) rfl (AK (v:=(pP b1 (k+i))) (AM (j:=k+i) rfl rfl Tryz.underlying184 Tryz.sizeOf97 rfl (by omega) (by simp)) rfl (AD.store' (i:=2) (off:=(k+i)) (vs:=[(vK .u32 (((os.getD (k+i) 0)+(vb.getD i 0)+c)%4294967296))]) (cs':=Ao (os.set (k+i) (((os.getD (k+i) 0)+(vb.getD i 0)+c)%4294967296))) (L':=[Ad b3 97 (Ao qs),Ad b2 97 (Ao vb),Ad b1 97 (Ao (os.set (k+i) (((os.getD (k+i) 0)+(vb.getD i 0)+c)%4294967296)))]) (AW rfl) rfl rfl rfl rfl rfl Tryz.sizeOf97 rfl (CL (BL _) (by omega)) (B2 (by omega)) rfl (asg' rfl (AD.nil (AC.subF (sL [4,5,6,7,8,9,10,12,128,129,130,14] rfl) ?_)))))
      refine AC.in_normal (AC.then_ (AE.region (AK (Ac (c:=((i+1:Nat):Int)) rfl rfl (Ae (a:=i) (b:=1) (by omega))) rfl (AQ rfl (AD.nil ?_)))))
      exact AC.subF (sL [4,5,6,7,8,9,10,12,128,129,130,14] rfl) (AC.round3 (i+1) (os.set (k+i) ((os.getD (k+i) 0+vb.getD i 0+c)%4294967296)) ((os.getD (k+i) 0+vb.getD i 0+c)/4294967296) (⟨by omega,by rw [List.length_set];exact hl,W32.set hw32 (by omega) _,by omega,Ey hz (by omega),QA hl (by omega) hv⟩) (by omega) (sF rfl) sr)
     ·replace hc4:=of_decide_eq_false hc4
      have hib:i=nw b:=by omega
      have hv3:=hv
      rw [hib,hN.take] at hv3
      have hbk:=P0 (T:=val us-W/V*V*4294967296^k) (P:=4294967296^(k+nw b+1)) hl (by omega) hw32 hcc hz rfl (hv3.trans (M7 hdS hqle hfit hc3 hXP)) (Nat.lt_of_le_of_lt (Nat.sub_le _ _) hfit)
      refine AE.exit (AC.then_exit (AC.round3_exit (AC.in_exit (AC.then_ (AE.region ?_)))))
      refine AQ rfl (AQ rfl (AQ rfl (AK (Ac (c:=((k+(nw b):Nat):Int)) rfl rfl (Ae (a:=k) (b:=nw b) (by omega))) rfl (AK (v:=(pP b1 (k+(nw b)))) (AM (j:=k+(nw b)) rfl rfl Tryz.underlying184 Tryz.sizeOf97 rfl (by omega) (by simp)) rfl ?_))))
      have hx12:os.getD (k+(nw b)) 0<4294967296:=W32.getD hw32 (k+(nw b))
      refine AK (AL (i:=2) (v:=(vK .u32 (os.getD (k+(nw b)) 0))) rfl rfl Tryz.isAgg97 (BD (xs:=os) (j:=(k+(nw b))) (by omega))) rfl (AQ rfl (AK (Ac (c:=(((os.getD (k+nw b) 0+c)%4294967296:Nat):Int)) rfl rfl Sb) rfl (AK (v:=(pP b1 (k+(nw b)))) (AM (j:=k+(nw b)) rfl rfl Tryz.underlying184 Tryz.sizeOf97 rfl (by omega) (by simp)) rfl (AD.store' (i:=2) (off:=(k+(nw b))) (vs:=[(vK .u32 ((os.getD (k+nw b) 0+c)%4294967296))]) (cs':=Ao (os.set (k+(nw b)) ((os.getD (k+nw b) 0+c)%4294967296))) (L':=[Ad b3 97 (Ao qs),Ad b2 97 (Ao vb),Ad b1 97 (Ao (os.set (k+(nw b)) ((os.getD (k+nw b) 0+c)%4294967296)))]) (AW rfl) rfl rfl rfl rfl rfl Tryz.sizeOf97 rfl (CL (BL _) (by omega)) (B2 (by omega)) rfl (AD.nil ?_)))))
      exact AC.subF (sL [4,5,6,7,8,9,10,12,128,129,130,14] rfl) (AC.retell (k:=12) (u:=Value.int .u64 ((W/V:Nat):Int)) rfl (by rw [hde,Nat.add_sub_cancel]) (AC.join1 (os.set (k+(nw b)) ((os.getD (k+nw b) 0+c)%4294967296)) (⟨by rw [List.length_set];exact hl,W32.set hw32 (by omega) _,hbk⟩) (sF rfl) sr))
    ·replace hc3:=of_decide_eq_false hc3
     have hP:4294967296^(k+nw b+1)<=4294967296^(nw a+1):=Nat.pow_le_pow_right (by omega) (by omega)
     rw [hN.take] at hc3
     obtain ⟨hde,hdS⟩:=N2 hN hWin hdq hc3
     have hfit:=hWin.fits
     have hU1:val (CK (nw a+1) (val us+(if val us<d*val (vb.take (nw b))*4294967296^k then 4294967296^(k+nw b+1) else 0)-d*val (vb.take (nw b))*4294967296^k))=val us-W/V*V*4294967296^k:=by rw [hN.take,if_neg hc3,EO _ _ (by omega)];exact hdS
     exact AE.skip (AC.retell (k:=12) (u:=Value.int .u64 ((W/V:Nat):Int)) rfl (by rw [hde]) (AC.join1 (CK (nw a+1) (val us+(if val us<d*val (vb.take (nw b))*4294967296^k then 4294967296^(k+nw b+1) else 0)-d*val (vb.take (nw b))*4294967296^k)) (⟨BZ _ _,DL _ _,hU1⟩) (sF rfl) sr))
   ·intro us2 hJ
    obtain ⟨hu2l,hu2w,hu2v⟩:=hJ
    refine AC.then_ (AE.region (AQ rfl (AQ rfl (AQ rfl (AK (A6 (c:=((W/V:Nat):Int)) rfl Tryz.underlying40 Tryz.underlying97 (CR (by exact hq32))) rfl ?_)))))
    refine AK (v:=(pP b3 k)) (AM (j:=k) rfl rfl Tryz.underlying184 Tryz.sizeOf97 rfl (by omega) (by simp)) rfl (AD.store' (i:=0) (off:=k) (vs:=[(vK .u32 (W/V))]) (cs':=Ao (qs.set k (W/V))) (L':=[Ad b3 97 (Ao (qs.set k (W/V))),Ad b2 97 (Ao vb),Ad b1 97 (Ao us2)]) (AW rfl) rfl rfl rfl rfl rfl Tryz.sizeOf97 rfl (CL (BL _) (by omega)) (B2 (by omega)) rfl (AD.nil (AC.subF (sL [4,5,6,7,8,9,10,12] rfl) (AC.scope_normal (AC.in_normal ?_)))))
    refine AC.then_ (AE.region (AQ rfl (AK (BQ (c:=(((k:Nat):Int)-1)) rfl rfl (BS (by omega) (by omega))) rfl (asg' rfl (AD.nil ?_)))))
    refine AC.subF (sL [4,5,6,7,8,9,10,12] rfl) ?_
    have hdd:=NM hN hWin hu2v hAeq hql (by omega) (hqz k (by omega))
    exact AC.round3 k us2 (qs.set k (W/V)) (⟨by omega,hu2l,hu2w,by rw [List.length_set];exact hql,W32.set hqw hq32 _,λj hj=>by rw [Hw (by omega)];exact hqz j (by omega),hdd.1,hdd.2⟩) (by omega) (sF rfl) sr
 ·replace hc0:=of_decide_eq_false hc0
  have hk00:k0=0:=by omega
  have hlt0:=hlt
  rw [hk00,Nat.pow_zero,Nat.mul_one] at hlt0
  have hfin:=P3 (a:=a) (b:=b) (s:=s) (q:=val qs) (r:=val us) hb0 (by rw [<-hV];exact hAeq) (by rw [<-hV];exact hlt0)
  refine AE.exit (AC.then_exit (AC.round3_exit (AC.in_exit (q1 (q4 ?_)))))
  refine AQ rfl (AQ rfl (AD.nil (AC.then_ (AE.block ?_))))
  refine AE.lp2 (tg λ(i:Nat) (us3:List Nat)=>i<=s/\us3.length=nw a+1/\W32 us3/\val us3=a%b*2^s/2^i) (tg λ(i:Nat) (us3:List Nat)=>[(4,(Value.slice (some ⟨b3,0,none⟩) m m)),(5,(Value.slice none 0 0)),(7,(Value.slice (some ⟨b1,0,none⟩) (nw a+1) (nw a+1))),(167,(vN s)),(168,(vN i))]) (tg λ(i:Nat) (us3:List Nat)=>[Ad b3 97 (Ao qs),Ad b2 97 (Ao vb),Ad b1 97 (Ao us3)]) (tg λ(i:Nat) (us3:List Nat)=>s-i) 0 us (⟨Nat.zero_le _,hul,huw,by rw [hfin.2];simp⟩) (sF rfl) sr (λi us3 hJ=>?_)
  obtain ⟨hi,hl3,hw3,hv3⟩:=hJ
  refine q4 (AK (Ai (c:=(decide (i<s))) rfl rfl (CI (a:=i) (b:=s))) rfl (AD.nil (q1 ?_)))
  refine AE.cond rfl (λhc5=>?_) (λhc5=>?_)
  ·replace hc5:=of_decide_eq_true hc5
   refine AE.skip (q1 (AE.block (AE.region (AQ rfl (AD.callM (v:=(Value.tuple #[])) (i:=2) (cs':=Ao (CK (nw a+1) (val us3/2))) (L':=[Ad b3 97 (Ao qs),Ad b2 97 (Ao vb),Ad b1 97 (Ao (CK (nw a+1) (val us3/2)))]) (AW rfl) (An (args:=[(Value.slice (some ⟨b1,0,none⟩) (nw a+1) (nw a+1))]) rfl rfl Tryz.call222) rfl (λw hw=>Tv _ (nw a+1) _ us3 hw3 hl3 (by omega) w (hw.get (i:=2) rfl)) (λd hd=>by cases hd<;>exact (AV rfl)) rfl ?_)))))
   refine AD.nil (AC.subF (sL [4,5,7,167,168] rfl) (AC.in_normal (AC.then_ (AE.region (AK (Ac (c:=((i+1:Nat):Int)) rfl rfl (Ae (a:=i) (b:=1) (by omega))) rfl ?_)))))
   refine AQ rfl (AD.nil (AC.subF (sL [4,5,7,167,168] rfl) ?_))
   have hb3:val us3/2<4294967296^(nw a+1):=Nat.lt_of_le_of_lt (Nat.div_le_self _ _) (by have:=Fm hw3;rw [hl3] at this;exact this)
   exact AC.round2 (i+1) (CK (nw a+1) (val us3/2)) (⟨by omega,BZ _ _,DL _ _,by rw [EO _ _ hb3,hv3,Nat.div_div_eq_div_mul,<-Nat.pow_succ]⟩) (by omega) (sF rfl) sr
  ·replace hc5:=of_decide_eq_false hc5
   have his:i=s:=by omega
   have hr:val us3=a%b:=by rw [hv3,his,Nat.mul_div_cancel _ (Nat.pow_pos (by omega))]
   have hr1:=Gg hw3 hl3 hr
   have hq1:=Gg hqw hql hfin.1
   refine AE.exit (AC.then_exit (AC.round2_exit (AC.in_exit (q2 (AQ rfl ?_)))))
   refine AQ rfl (asg' rfl (asg' rfl (AD.nil (AC.subF (sL [4,5,7,167,168] rfl) (AC.then_ ?_)))))
   exact AE.ret (CO rfl (AS (v:=(Value.slice (some ⟨b3,0,none⟩) m m)) rfl) (AS (v:=(Value.slice (some ⟨b1,0,none⟩) (nw a+1) (nw a+1))) rfl) (λw hw=>⟨b3,b1,by rw [hm],hw.out,hw.fresh (i:=0) rfl,hw.fresh (i:=2) rfl,(hw.apart (i:=0) (j:=2) (by decide) rfl rfl),by rw [<-hm,<-hq1];exact hw.get (i:=0) rfl,by rw [<-hr1];exact hw.get (i:=2) rfl⟩))
end
end Go.Proofs.YtpgncndhhhllfaaGreatDoor
