import Derived.Test.YtcpkbjjmcleplaaGreatDoorPart42
import Derived.Test.YtcpkbjjmcleplaaGreatDoorPart46
namespace Go.Proofs.YtcpkbjjmcleplaaGreatDoor
open Go Go.RowKit Go.Proofs.Tryz
open Go.Value renaming slice→qz,bool→qa
set_option linter.unusedVariables false
set_option linter.unusedSimpArgs false
section
set_option maxRecDepth 100000
theorem fZ:ElemT prog 168 9 1 16:=⟨underlying168,Cx jV⟩
theorem Jx (n:Nat) (hn:nw n<=1073741824) (w:World) (hT:PK w):Calls prog 48 #[(aG (AW n))] w (Gs w (Value.string (txB (Lib.decDigits n)))):=by
 have hT:=J8 hT
 refine Jh (args:=[(aG (AW n))]) func48 O O (leB O) (zI (sL [0] O) (q4 (BH (cs:=AW n) O λb1=>asg' O (q6 (sL [1,2] O) (q4 (st' (v:=(pP b1 1)) (AA O underlying54 O sizeOf9 O) O (BL 0 (Value.string (Bw n)) VD O (st' (Bh (c:=(decide (n<18446744073709551616))) O O Cv) O (oNl' (zB (sL [1,2,10] O) ?_))))))))))
 refine zA ?_
 refine zK O (λhc0=>?_) (λhc0=>?_)
 ·replace hc0:=xR hc0
  exact q4 (st' (v:=(pP b1 0)) (AA O underlying54 O sizeOf52 O) O (BL 0 (vK .u64 (CM n)) Hb O (zN (k:=12) (u:=(vK .u64 n)) O (by rw [Bp hc0]) (CQ call84 (λw hw=>RT n Z w (hT.below hw.out)) O (asg' O (oNl' (zB (sL [1,2] O) (zA (zF (zL (ret_one O (rd_tmp (v:=(Value.string (txB (Lib.decDigits n)))) O) (λw hw=>⟨rfl,hw.outB⟩))))))))))))
 ·replace hc0:=xQ hc0
  refine zG (q2 (asg' O (zm 9 1 (oNl' (q1 (q4 (Af 1 CH O (yB (V:=λb2=>(qz (jk b2) (nw n) ((Ax n).length))) (T:=27) (cs:=Ap (Ax n)) (AG O) (Ag (args:=[(aG (AW n))]) O O call85) (λw hw=>Do n Z w) O (leB O) λb2=>asg' O (oNl' (zB (sL [1,2,3,4] O) ?_))))))))))
  refine zA (zM ?_)
  refine OkC.lp7 (tg λ(lb:Nat) (bs:List Nat) (cc:Nat) (m:Nat) (p:Option Addr) (ck:Nat×Nat) (ps:List (List UInt8))=>TxJ n bs m p ck.1 ck.2 ps) (tg λ(lb:Nat) (bs:List Nat) (cc:Nat) (m:Nat) (p:Option Addr) (ck:Nat×Nat) (ps:List (List UInt8))=>[(2,(Value.string (ByteArray.mk #[]))),(4,(qz (jk lb) (nw m) cc)),(3,(qz p ck.2 ck.1))]) (tg λ(lb:Nat) (bs:List Nat) (cc:Nat) (m:Nat) (p:Option Addr) (ck:Nat×Nat) (ps:List (List UInt8))=>[AO lb 27 (Ap bs),rowW p 9 1 ck.2 ck.1 (stL ps),AO b1 54 (AW n)]) (tg λ(lb:Nat) (bs:List Nat) (cc:Nat) (m:Nat) (p:Option Addr) (ck:Nat×Nat) (ps:List (List UInt8))=>m) b2 (Ax n) ((Ax n).length) n none (0,0) ([]:List (List UInt8)) (YE Z (Ci n) (Cd n) (λi hi=>D8 hi)) (sF O) sr (λlb bs cc m p ck ps hJ=>?_)
  have hTJ:=hJ
  have hTJ2:=hTJ
  obtain ⟨hbs,hbl,hbd,hmn,ho,hm,hpk,hpl,hp1,hp0⟩:=hTJ2
  have hdl:(Lib.decDigits (m%1000000000)).length<=9:=Ky (k:=8) (Nat.mod_lt _ jY)
  have hdl1:1<=(Lib.decDigits (m%1000000000)).length:=by rw [Lib.decDigits];split<;>simp
  refine zS (q4 (AK O (st' (v:=(vN (nw m))) (AD O underlying169) O (st' (CC (c:=(decide (0<(nw m)))) O O (DE (a:=0) (b:=nw m))) O (oNl' (zB (sL [2,4,3,18] O) (zA ?_)))))))
  refine zK O (λhc1=>?_) (λhc1=>?_)
  ·replace hc1:=xR hc1
   refine zG (zA (zM (q4 (AK O (yB (V:=λb3=>(Value.tuple #[(qz (jk b3) (nw m) (nw m)),(vK .u32 (m%1000000000))])) (T:=27) (cs:=Ap (Cb (nw m) (m/1000000000))) (AG O) (Ag (args:=[(qz (jk lb) (nw m) cc),(Value.int .u32 (1000000000:Int))]) O O call86) (λw hw=>N2 m 1000000000 _ _ bs hbs hbl hbd Z Z Z w (hw.get (i:=0) O)) O (leB O) λb3=>AK O (st' (AJ (v:=(qz (jk b3) (nw m) (nw m))) O O) O (st' (AJ (v:=(vK .u32 (m%1000000000))) O O) O (asg' O (asg' O (q3 (sL [2,4,3,5,6] O) ?_))))))))))
   refine AK O ?_
   have hnm:nw (m/1000000000)<=nw m:=DA (Nat.div_le_self _ _)
   refine CQ (args:=[(qz (jk b3) (nw m) (nw m))]) (v:=(qz (jk b3) (nw (m/1000000000)) (nw m))) call87 (λw hw=>(by have h9:=RJ b3 (nw m) (nw m) (Cb (nw m) (m/1000000000)) (D9 _ _) (by rw [Bk];omega) Z Z w (hw.get (i:=0) O);rw [Ty (nw m) hnm (Nat.le_refl _)] at h9;exact h9)) O (asg' O (q3 (sL [2,4,3,6] O) (AK O (st' (Al (c:=((m%1000000000:Nat):Int)) O underlying27 underlying3 (B6 Z)) O (CQ call88 (λw hw=>Wf (m%1000000000) Z w (hT.below hw.out)) O (asg' O (q6 (sL [2,4,3,7] O) (q4 (AK O (st' (v:=(vN (nw (m/1000000000)))) (AD O underlying169) O (st' (CC (c:=(decide (0<(nw (m/1000000000))))) O O (DE (a:=0) (b:=nw (m/1000000000)))) O ?_)))))))))))
   refine oNl' (zB (sL [2,4,3,7,31] O) (zA ?_))
   refine yL (tg λ(sx:List UInt8)=>(m/1000000000≠0->sx=List.replicate (9-(Lib.decDigits (m%1000000000)).length) 48++Lib.decDigits (m%1000000000))/\(m/1000000000=0->sx=Lib.decDigits (m%1000000000))) (tg λ(sx:List UInt8)=>[(2,(Value.string (ByteArray.mk #[]))),(4,(qz (jk b3) (nw (m/1000000000)) (nw m))),(3,(qz p ck.2 ck.1)),(7,(Value.string (txB sx)))]) (tg λ(sx:List UInt8)=>[AO b3 27 (Ap (Cb (nw m) (m/1000000000))),AO lb 27 (Ap bs),rowW p 9 1 ck.2 ck.1 (stL ps),AO b1 54 (AW n)]) ?_ ?_
   ·refine zK O (λhc2=>?_) (λhc2=>?_)
    ·replace hc2:=xR hc2
     exact zH (AK O (st' (v:=(vN ((Lib.decDigits (m%1000000000)).length))) ((show Ex _ _ _ _ _ _ (Value.int .i64 (((Lib.decDigits (m%1000000000)).length:Nat):Int)) from DW (Lib.decDigits (m%1000000000))▸DG O underlying9)) O (st' (BY (c:=((9-(Lib.decDigits (m%1000000000)).length:Nat):Int)) O O (by rw [A6 Z Z];omega)) O (ck' call89 (aR _ Z) O (AK O (st' (v:=(Value.string (txB (List.replicate (9-(Lib.decDigits (m%1000000000)).length) 48++Lib.decDigits (m%1000000000))))) (Bz (r:=(txB (List.replicate (9-(Lib.decDigits (m%1000000000)).length) 48++Lib.decDigits (m%1000000000)))) O O (by rw [DW,DW,List.length_replicate];omega) (EB _ _)) O (asg' O (oNl' (zB (sL [2,4,3,7] O) (zk (List.replicate (9-(Lib.decDigits (m%1000000000)).length) 48++Lib.decDigits (m%1000000000)) (⟨λ_=>rfl,λh=>by rw [h] at hc2;exact absurd hc2 jY⟩) (sF O) sr))))))))))
    ·replace hc2:=xQ hc2
     exact zG (zk (Lib.decDigits (m%1000000000)) (⟨λh=>by have h8:=Cp.1 (show nw (m/1000000000)<=0 by omega);simp at h8;omega,λ_=>rfl⟩) (sF O) sr)
   ·intro sx hJ
    obtain ⟨hs1,hs0⟩:=hJ
    exact zA (zH (AK O (AK O (zZ (V:=λb4=>(qz (jk b4) 1 1)) (T:=9) (cs:=[(Value.string (txB sx))]) (AG O) (Ai (cs:=[(Value.string (txB sx))]) (pv:=[(0,(Value.string (txB sx)))]) underlying168 sizeOf9 zeroValue9 jY jY O jV) O (leB O) λb4=>zj 3 (j:=0) (cs2:=stL (ps++[sx])) fZ O ho (by simp [Mf];omega) O O O O O jY (GC Z) Z (by rw [SB];rfl) O λp_1 c_1 ho_1 hne_1=>asg' O (oNl' (zB (sL [2,4,3,7] O) (zJ (OkQ.round7 b3 (Cb (nw m) (m/1000000000)) (nw m) (m/1000000000) p_1 (c_1,ck.2+1) (ps++[sx]) (YF hTJ Z ho_1 hs1 hs0) (Nat.div_lt_self (by have h8:=Bt m;rcases Nat.eq_zero_or_pos m with e|e;(· rw [e,JG] at hc1;omega);exact e) jY) (sF O) (sl (sk (sl sr)))))))))))
  ·replace hc1:=xQ hc1
   have hte:=a_ hTJ Z hn
   refine zW (zO (OkQ.round7_exit (zR (q2 (AK O (y6 1 (cs':=stL (ps).reverse) (v:=(Value.tuple #[])) (AG O) (Ag (args:=[(qz p ck.2 ck.1)]) O O call90) O (λw hw=>aU _ _ _ _ 9 ho hpk w (hw.holds (i:=1) O)) (λd hd=>by cases hd<;>exact (leB O)) (q3 (sL [2,4,3] O) (AK O (Pk O (args:=[(qz p ck.2 ck.1),(Value.string (ByteArray.mk #[]))]) (v:=(Value.string (txB (Lib.decDigits n)))) call91 (λw hw=>(by have h9:=Wg _ _ _ (((ps).reverse)) 9 ho (by rw [List.length_reverse];exact hpk) hte.1 (by rw [hte.2.1];exact hte.2.2) w (hw.holds (i:=1) O);rw [hte.2.1] at h9;exact h9)) O (asg' O (oNl' ?_)))))))))))
   exact zB (sL [2,4,3] O) (zA (zF (ret_one O (rd_tmp (v:=(Value.string (txB (Lib.decDigits n)))) O) (λw hw=>⟨rfl,hw.outB⟩))))
end
section
set_option maxRecDepth 100000
theorem Nj (z:Int) (hz:nw z.natAbs<=1073741824) (w:World) (hT:PK w):Calls prog 47 #[(aG (A8 z))] w (Gs w (Value.string (txB (txI z)))):=by
 have hl:=Jl z.natAbs
 have hT:=J8 hT
 refine Jh (args:=[(aG (A8 z))]) func47 O O (leB O) (zI (sL [0] O) (q4 (BH (cs:=A8 z) O λb1=>asg' O (q6 (sL [1,2] O) (q4 (st' (v:=(pP b1 2)) (AA O underlying58 O sizeOf4 O) O (BL 0 (qa (decide (z<0))) Mj O (oNl' (zB (sL [1,2,4] O) (zA ?_))))))))))
 refine zK O (λhc0=>?_) (λhc0=>?_)
 ·replace hc0:=xR hc0
  have he:txI z=45::Lib.decDigits z.natAbs:=by unfold txI;rw [if_pos hc0]
  exact q4 (st' (v:=(pP b1 0)) (AA O underlying58 O sizeOf56 O) O (st' (v:=(pP b1 0)) (AA O underlying56 O sizeOf54 O) O (By 0 (AW z.natAbs) CH O (Pk O call48 (λw hw=>Jx z.natAbs Z w (hT.below hw.out)) O (st' (v:=(Value.string (txB (45::Lib.decDigits z.natAbs)))) (Bz (r:=(txB (45::Lib.decDigits z.natAbs))) O O (by rw [DW];show 1+_<=_;omega) (EB [45] _)) O (asg' O (oNl' (zB (sL [1,2] O) (zA (zF (zL (ret_one O (rd_tmp (v:=(Value.string (txB (45::Lib.decDigits z.natAbs)))) O) (λw hw=>⟨by rw [he],hw.outB⟩)))))))))))))
 ·replace hc0:=xQ hc0
  have he:txI z=Lib.decDigits z.natAbs:=by unfold txI;rw [if_neg hc0]
  exact zG (q2 (st' (v:=(pP b1 0)) (AA O underlying58 O sizeOf56 O) O (st' (v:=(pP b1 0)) (AA O underlying56 O sizeOf54 O) O (By 0 (AW z.natAbs) CH O (Pk O call48 (λw hw=>Jx z.natAbs Z w (hT.below hw.out)) O (asg' O (oNl' (zB (sL [1,2] O) (zA (zF (ret_one O (rd_tmp (v:=(Value.string (txB (Lib.decDigits z.natAbs)))) O) (λw hw=>⟨by rw [he],hw.outB⟩))))))))))))
theorem UC (q:Rat) (hs:Sz q<=16777216) (w:World) (hT:PK w):Calls prog 19 #[(aG (AC q))] w (Gs w (Value.string (txB (Ya q)))):=by
 have hl1:=TZ q.num
 have hl2:=Jl q.den
 have s1:=DF q
 have s2:=Cu q
 have hT:=J8 hT
 refine Jh (args:=[(aG (AC q))]) func19 O O (leB O) (zI (sL [0] O) (q4 (BH (cs:=AC q) O λb1=>asg' O (q6 (sL [1,2] O) (q4 (Af 0 A9 O (ck' call46 (GW q) O (oNl' (zB (sL [1,2,4] O) (zA ?_))))))))))
 refine zK O (λhc0=>?_) (λhc0=>?_)
 ·replace hc0:=xR hc0
  have he:Ya q=txI q.num:=by unfold Ya;rw [if_pos hc0]
  exact q4 (st' (v:=(pP b1 0)) (AA O underlying60 O sizeOf58 O) O (By 0 (A8 q.num) Du O (Pk O call47 (λw hw=>Nj q.num Z w (hT.below hw.out)) O (asg' O (oNl' (zB (sL [1,2] O) (zA (zF (zL (ret_one O (rd_tmp (v:=(Value.string (txB (txI q.num)))) O) (λw hw=>⟨by rw [he],hw.outB⟩)))))))))))
 ·replace hc0:=xQ hc0
  have he:Ya q=txI q.num++[47]++Lib.decDigits q.den:=by unfold Ya;rw [if_neg hc0,xC];rfl
  refine zG (q1 (B9 [(0,true),(1,true),(4,true),(2,false),(3,true),(5,false),(6,false),(7,true),(8,true)] sr (Am (v:=(pP b1 0)) O (AA O underlying60 O sizeOf58 O) (Dz 0 (A8 q.num) Du O (B3 0 A9 O (zD O (Pk O call47 (λw hw=>Nj q.num Z w (hT.below hw.out)) O (zC sr (Am (v:=(Value.string (txB (txI q.num++[47])))) O (Bz (r:=(txB (txI q.num++[47]))) O O (by rw [DW];show _+1<=_;omega) (EB _ [47])) (zD O (ck' call49 (den_ok q Z) O ?_)))))))))))
  exact zC sr (zD O (Pk O call48 (λw hw=>Jx q.den Z w (hT.below hw.out)) O (zC sr (Am (v:=(Value.string (txB (txI q.num++[47]++Lib.decDigits q.den)))) O (Bz (r:=(txB (txI q.num++[47]++Lib.decDigits q.den))) O O (by rw [DW,DW,xJ,List.length_singleton];omega) (EB _ _)) (pS' O (zP (zB (sL [1,2] O) (zA (zF (ret_one O (rd_tmp (v:=(Value.string (txB (txI q.num++[47]++Lib.decDigits q.den)))) O) (λw hw=>⟨by rw [he],hw.outB⟩)))))))))))
theorem Vb (q:Rat) (b:FX q) (hs:Sz q<=16777216) (w:World) {S:Nat->Prop} (hb:Ro S w b) (hT:PK w):Calls prog 26 #[(aG (AC q)),(aG (fxL b))] w (Gs w (qa true)):=by
 have hT:=J8 hT
 have lb:=Bx (W:=z0 w) hb
 refine Ib (args:=[(aG (AC q)),(aG (fxL b))]) (L:=[AM b.z.n,AM b.m]) func26 O O (leB O) (M5 hb Ao) (zI (sL [0,1] O) (q4 (BH (cs:=AC q) O λb1=>BH (cs:=fxL b) O λb2=>asg' O (q6 (sL [2,3,4] O) (B9 [(0,true),(2,true),(1,false),(3,false),(4,true),(5,true)] sr (B3 1 A9 O (B3 0 Br O (zD O (Pk O call19 (λw hw=>UC q Z w (hT.below hw.out)) O ?_)))))))))
 exact zC sr (zD O (CQ call59 (λw hw=>XO b Z w (inS hw 2 O lb)) O (zC sr (Am O (Bh (c:=true) O O jX) (pS' O (zP (zB (sL [4] O) (zA (zF (ret_one O (rd_tmp (v:=(qa true)) O) (λw hw=>⟨rfl,hw.outB⟩)))))))))))
end
section
set_option maxRecDepth 100000
theorem Up {ps:List Pt} {zt ss:List Z3} (x:Ku ps zt ss) {v:Pt} (q:PX v) (hl:zt.length<=1000000) (hN:ps.length<=1000000) (hz:∀k,BO (BU ps k)<=1000) (hv:BO v<=4000) (w:World) {S:Nat->Prop} (hq:Ro S w q) (hx:Ro S w x):Calls prog 21 #[(aG (HI x)),(aG (Ae q))] w (Ac w (.tuple #[(vI (fdA ps zt v).1),(vN (fdA ps zt v).2)])):=by
 by_cases h:EO ps.length zt=true
 ·rw [fdA,if_pos h]
  obtain ⟨ts,rfl,hnb⟩:=MD h
  obtain ⟨y,hy,_,hro⟩:=bZ x
  rw [xI] at hl
  have k:=Ry y q hl hN hnb hz hv w hq (hro hx)
  rw [hy] at k
  rw [Ly]
  exact k
 ·rw [fdA,if_neg h]
  rw [Bool.not_eq_true] at h
  exact Uq x q h hl w hq hx
theorem XQ {ps:List Pt} {zt ss:List Z3} (x:Ku ps zt ss) {u v:Pt} (a:PX u) (b:PX v) (hl:zt.length<=1000000) (hN:ps.length<=1000000) (hz:∀k,BO (BU ps k)<=6) (hu:BO u<=6) (hv:BO v<=6) (w:World) {S:Nat->Prop} (ha:Ro S w a) (hb:Ro S w b) (hx:Ro S w x):Calls prog 23 #[(aG (HI x)),(aG (Ae a)),(aG (Ae b))] w (Aj (Vh (J5 ps zt u v)) S w):=by
 by_cases hab:u=v
 ·subst hab
  rw [aO]
  exact XS x a b Z w ha hb hx
 ·by_cases h:EO ps.length zt=true
  ·obtain ⟨ts,rfl,hnb⟩:=MD h
   obtain ⟨y,hy,_,hro⟩:=bZ x
   rw [xI] at hl
   have k:=XR y a b hab hl hN hnb hz hu hv w ha hb (hro hx)
   rw [hy] at k
   rw [J5,if_neg hab,Ly,nZ,if_pos h,xI,<-XX (f:=Dj) (g:=Dk) hab]
   exact k
  ·rw [Bool.not_eq_true] at h
   rw [aN h]
   exact XT x a b hab Z h hl w ha hb hx
theorem aP {ps:List Pt} {zt:List Z3} {a b:Pt} (hz:∀i,BO (BU ps i)<=4) (sa:BO a<=6) (sb:BO b<=6):∀x∈J5 ps zt a b,bK x:=λx hx=>by
 unfold J5 at hx
 split at hx
 ·cases hx
 ·exact MS (ts:=zt.map natT) hz sa sb (nZ ps.length zt) (by rw [xI];exact Wv _ _) x ((Gh _).mem_iff.1 hx)
theorem aM {l:List Pc} (h:∀x∈l,bK x) {i:Nat} (hi:i<l.length):bK (l.getD i ⟨0,0,0⟩):=by
 rw [List.getD,xN hi];exact h _ (List.getElem_mem hi)
theorem XV {ps:List Pt} {zt:List Z3} {a b:Pt}:(J5 ps zt a b).length<=zt.length:=by
 unfold J5
 split
 ·exact xH _
 ·show (Kk _).length<=_
  rw [Me]
  exact xK (Gf _) (Wv _ _)
set_option maxHeartbeats 4000000 in
theorem VG {ps:List Pt} {zt ss sq:List Z3} (x:MZ ps zt ss) (y:Ku ps zt sq) (lp la lb:PD) (kp:lp.ok) (ka:la.ok) (kb:lb.ok) (hl:zt.length<=1000) (hN:ps.length<=1000000) (hz4:∀k,BO (BU ps k)<=4) (w:World) {S:Nat->Prop} (hx:Ro S w x) (hy:Ro S w y) (hT:PK w):Calls prog 7 #[(aG (EU x)),(aG (HI y)),(aG (EI lp)),(aG (EI la)),(aG (EI lb))] w (Gs w (qa true)):=by
 obtain ⟨p,hp⟩:∃q,q=Ew lp:=⟨_,rfl⟩
 have zp:BO p<=4:=by rw [hp];exact Iz kp
 obtain ⟨a,ha⟩:∃q,q=Ew la:=⟨_,rfl⟩
 have za:BO a<=4:=by rw [ha];exact Iz ka
 obtain ⟨b,hb⟩:∃q,q=Ew lb:=⟨_,rfl⟩
 have zb:BO b<=4:=by rw [hb];exact Iz kb
 have hz6:∀k,BO (BU ps k)<=6:=λk=>xK (hz4 k) jY
 have hz1:∀k,BO (BU ps k)<=1000:=λk=>xK (hz4 k) jY
 obtain ⟨⟨ft,fw⟩,hf⟩:∃z,z=fdA ps zt p:=⟨_,rfl⟩
 obtain ⟨nr,hnr⟩:∃z,z=(nerF (Py ps p) ps.length).1:=⟨_,rfl⟩
 obtain ⟨L,hL⟩:∃l,l=J5 ps zt a b:=⟨_,rfl⟩
 have hLs:∀x∈L,bK x:=by rw [hL];exact aP hz4 Z Z
 have hLl:L.length<=zt.length:=by rw [hL];exact XV
 have hT:=J8 hT
 have lx:=Bx (W:=z0 w) hx
 have ly:=Bx (W:=z0 w) hy
 refine Ib (args:=[(aG (EU x)),(aG (HI y)),(aG (EI lp)),(aG (EI la)),(aG (EI lb))]) (L:=(AI x.a.p (rowsL Ah ps)::AI x.b.p (rowsL Bn zt)::AI x.c.p (rowsL Bn ss)::AI y.a.p (rowsL EE y.rs)::AI y.b.p (rowsL Bn zt)::AI y.c.p (rowsL Bn sq)::DJ y.rs)) func7 O O (leB O) (GT hx (YZ hy)) (zI (sL [0,1,2,3,4] O) (q4 (BH (cs:=EU x) O λb1=>BH (cs:=HI y) O λb2=>BH (cs:=EI lp) O λb3=>BH (cs:=EI la) O λb4=>BH (cs:=EI lb) O λb5=>asg' O (q6 (sL [5,6,7,8,9,10] O) (B9 [(0,true),(1,true),(2,false),(3,false),(4,true),(5,true),(6,true),(7,true),(8,true)] sr (B3 4 GQ O ?_))))))
 refine B3 2 Hy O (zD O (CQ (args:=[(aG (EI lp))]) (v:=(aG (Ah p))) call20 (λw hw=>(by rw [hp];exact LN lp kp w)) O (zC sr (zD O (CQ (args:=[(aG (EU x)),(aG (Ah p))]) (v:=(Value.tuple #[(vI ft),(vN fw)])) call15 (λw hw=>(by have h9:=VX x Z p hz4 Z w (inS hw 5 O lx);rw [<-hf] at h9;exact h9)) O (zC sr (Bi O (Am O (AJ (v:=(vI ft)) O O) (Am O (AJ (v:=(vN fw)) O O) (pS' O (pS' O ?_)))))))))))
 refine zP (zB (sL [5,6,7,8,9,10,11,12] O) (q1 (B9 [(0,true),(1,true),(2,false),(3,false),(4,true),(5,true),(6,true),(7,true),(8,true)] sr (B3 3 Ey O (B3 2 Hy O (zD O (cP (S:=S) (x:=p) (args:=[(aG (EI lp))]) call22 (λw hw=>(Aj.cast (T:=λi=>PX i) hp.symm (Ix lp kp w))) O O O λg1 lg1=>zC (sl (sl (sl (sl sr)))) (zD O (CQ (args:=[(aG (HI y)),(aG (Ae g1))]) (v:=(Value.tuple #[(vI ft),(vN fw)])) call21 (λw hw=>(by have h9:=Up y g1 Z Z hz1 Z w (inS hw 0 O lg1) (QA (x:=y) hw 12 O 15 (λz hz=>hz) ly);rw [<-hf] at h9;exact h9)) O (zC (sl (sl (sl (sl sr)))) ?_))))))))))
 refine Bi O (Am O (AJ (v:=(vI ft)) O O) (Am O (AJ (v:=(vN fw)) O O) (pS' O (pS' O (zP (zB (sL [5,6,7,8,9,10,11,12,13,14] O) (q1 (B9 [(0,true),(1,true),(3,true),(2,false),(4,false),(5,false),(6,true)] sr (B3 8 GQ O (B3 5 Hy O (B3 4 Hy O ?_)))))))))))
 refine zD O (CQ (args:=[(aG (EI la))]) (v:=(aG (Ah a))) call20 (λw hw=>(by rw [ha];exact LN la ka w)) O (zC sr (zD O (CQ (args:=[(aG (EI lb))]) (v:=(aG (Ah b))) call20 (λw hw=>(by rw [hb];exact LN lb kb w)) O (zC sr (zD O (zw (S:=S) (α:=CX (rowsL Ca L) L.length) (args:=[(aG (EU x)),(aG (Ah a)),(aG (Ah b))]) call18 (λw hw=>(by have h9:=Yg x Z a b hz4 Z Z w (inS hw 9 O lx);rw [<-hL] at h9;exact h9)) O O O λl ll=>zC (sl sr) (pS' O (zP (zB (sL [5,6,7,8,9,10,11,12,13,14,15] O) ?_))))))))))
 refine q1 (B9 [(0,true),(1,true),(3,true),(2,false),(4,false),(5,false),(6,true)] sr (B3 8 Ey O (B3 6 Hy O (B3 5 Hy O (zD O (cP (S:=S) (x:=a) (args:=[(aG (EI la))]) call22 (λw hw=>(Aj.cast (T:=λi=>PX i) ha.symm (Ix la ka w))) O O O λg2 lg2=>zC (sl (sl (sl (sl sr)))) (zD O (cP (S:=S) (x:=b) (args:=[(aG (EI lb))]) call22 (λw hw=>(Aj.cast (T:=λi=>PX i) hb.symm (Ix lb kb w))) O O O λg3 lg3=>zC (sl (sl (sl (sl (sl (sl (sl (sl sr)))))))) (zD O ?_)))))))))
 refine zw (S:=S) (α:=Vh L) (args:=[(aG (HI y)),(aG (Ae g2)),(aG (Ae g3))]) call23 (λw hw=>(by have h9:=XQ y g2 g3 Z Z hz6 Z Z w (inS hw 4 O lg2) (inS hw 0 O lg3) (QA (x:=y) hw 21 O 24 (λz hz=>hz) ly);rw [<-hL] at h9;exact h9)) O O O λk lk=>yS (L2:=(AI k.a.p (rowsL Cf k.rs)::AM g3.x.z.n::AM g3.x.m::AM g3.y.z.n::AM g3.y.m::AM g2.x.z.n::AM g2.x.m::AM g2.y.z.n::AM g2.y.m::AI l.p (rowsL Ca L)::AM g1.x.z.n::AM g1.x.m::AM g1.y.z.n::AM g1.y.m::AO b5 31 (EI lb)::AO b4 31 (EI la)::AO b3 31 (EI lp)::AO b2 42 (HI y)::AO b1 37 (EU x)::AI x.a.p (rowsL Ah ps)::AI x.b.p (rowsL Bn zt)::AI x.c.p (rowsL Bn ss)::AI y.a.p (rowsL EE y.rs)::AI y.b.p (rowsL Bn zt)::AI y.c.p (rowsL Bn sq)::(DJ y.rs++C2 k.rs))) (show List.Perm _ (AI k.a.p (rowsL Cf k.rs)::AM g3.x.z.n::AM g3.x.m::AM g3.y.z.n::AM g3.y.m::AM g2.x.z.n::AM g2.x.m::AM g2.y.z.n::AM g2.y.m::AI l.p (rowsL Ca L)::AM g1.x.z.n::AM g1.x.m::AM g1.y.z.n::AM g1.y.m::AO b5 31 (EI lb)::AO b4 31 (EI la)::AO b3 31 (EI lp)::AO b2 42 (HI y)::AO b1 37 (EU x)::AI x.a.p (rowsL Ah ps)::AI x.b.p (rowsL Bn zt)::AI x.c.p (rowsL Bn ss)::AI y.a.p (rowsL EE y.rs)::AI y.b.p (rowsL Bn zt)::AI y.c.p (rowsL Bn sq)::(DJ y.rs++C2 k.rs)) from XK [AI k.a.p (rowsL Cf k.rs)] (C2 k.rs) (AM g3.x.z.n::AM g3.x.m::AM g3.y.z.n::AM g3.y.m::AM g2.x.z.n::AM g2.x.m::AM g2.y.z.n::AM g2.y.m::AI l.p (rowsL Ca L)::AM g1.x.z.n::AM g1.x.m::AM g1.y.z.n::AM g1.y.m::AO b5 31 (EI lb)::AO b4 31 (EI la)::AO b3 31 (EI lp)::AO b2 42 (HI y)::AO b1 37 (EU x)::AI x.a.p (rowsL Ah ps)::AI x.b.p (rowsL Bn zt)::AI x.c.p (rowsL Bn ss)::AI y.a.p (rowsL EE y.rs)::AI y.b.p (rowsL Bn zt)::AI y.c.p (rowsL Bn sq)::DJ y.rs)) ?_
 have hkl:=k.len
 refine zC (sl (sl (sl (sl (sl (sl (sl (sl (sl (sk (sk (sk (sk (sk (sk (sk (sk (sk (sk (sk (sk (sk (sk (sk (sk (List.sublist_append_left _ _)))))))))))))))))))))))))) (pS' O (zP (zB (sL [5,6,7,8,9,10,11,12,13,14,15,16] O) (q1 (zS (B9 (EV 25++[(27,true),(28,true),(25,false),(26,false),(29,false),(30,false),(31,true),(32,true)]) sr (Bi O (Bi O (Am O (DH (c:=false) O O (xD Z)) (Bi O (zQ (v:=(vN fw)) O (AE O) (BF O) O O ?_)))))))))))
 refine zQ (v:=(vN fw)) O (AE O) (BF O) O O (zQ (v:=(qa false)) O (AE O) (DH (c:=false) O O (xD Z)) O O (Am (v:=(qa false)) O (AN O O) (Bi O (zQ (v:=(qz l.p L.length L.length)) O (AE O) (BF O) O O (zQ (v:=(vN L.length)) O (AE O) (AD O underlying72) O O (zQ (v:=(qz k.a.p k.rs.length k.a.c)) O (AE O) (BF O) O O (zQ (v:=(vN k.rs.length)) O (AE O) (AD O underlying88) O O (zQ (v:=(qa false)) O (AE O) (DH (c:=false) O O (xD Z)) O O (Am (v:=(qa false)) O (AN O O) (Bi O (zQ (v:=(qz l.p L.length L.length)) O (AE O) (BF O) O O ?_)))))))))))
 refine zQ (v:=(vN L.length)) O (AE O) (OT O underlying72) O O (zQ (v:=(qz l.p L.length L.length)) O (AE O) (BF O) O O (zQ (v:=(vN L.length)) O (AE O) (AD O underlying72) O O (zQ (v:=(qa false)) O (AE O) (CC (c:=false) O O (xD Z)) O O (Am (v:=(qa false)) O (AN O O) (Bi O (zQ (v:=(aG (EU x))) O (AE O) (AY (i:=18) (vs:=EU x) O O GQ.a GQ.s O O) O O (zQ (v:=(aG (EI lp))) O (AE O) (AY (i:=16) (vs:=EI lp) O O Hy.a Hy.s O O) O O (zQ (v:=(aG (HI y))) O (AE O) (AY (i:=17) (vs:=HI y) O O Ey.a Ey.s O O) O O (zQ (v:=(aG (EI lp))) O (AE O) (AY (i:=16) (vs:=EI lp) O O Hy.a Hy.s O O) O O (zD O (zd (v:=(aG (Ah p))) (AE O) (Ag (args:=[(aG (EI lp))]) O O call20) (λw hw=>(by rw [hp];exact LN lp kp w)) O (leB O) ?_)))))))))))
 refine zC sr (zD O (zd (v:=(vI nr)) (AE O) (Ag (args:=[(aG (EU x)),(aG (Ah p))]) O O call24) (λw hw=>(by have h9:=Va x p Z hz4 Z w (inS hw 19 O lx);rw [cH,<-hnr] at h9;exact h9)) O (leB O) (zC sr (zD O (yY (AE O) (cP (S:=S) (x:=p) (args:=[(aG (EI lp))]) call22 (λw hw=>(Aj.cast (T:=λi=>PX i) hp.symm (Ix lp kp w))) O O O λg4 lg4=>zC (sl (sl (sl (sl sr)))) (zD O (zd (v:=(vI nr)) (AE O) (Ag (args:=[(aG (HI y)),(aG (Ae g4))]) O O call25) (λw hw=>(by have h9:=XP y g4 Z hz1 Z w (inS hw 0 O lg4) (QA (x:=y) hw 26 O 29 (λz hz=>(xF _ hz)) ly);rw [<-hnr] at h9;exact h9)) O (leB O) (zC (sl (sl (sl (sl sr)))) (zQ (v:=(qa false)) O (AE O) (DH (c:=false) O O (xD Z)) O O ?_))))))))))
 refine Am (v:=(qa false)) O (AN O O) (zP (zB (sL [5,6,7,8,9,10,15,16,76] O) (zA (zU O (zG (q1 (q4 (asg' O (oNl' (zB (sL [5,6,7,8,9,10,15,16,17] O) (zA ?_)))))))))))
 refine zM ?_
 refine yW (tg λ(i:Nat)=>i<=L.length) (tg λ(i:Nat)=>[(15,(qz l.p L.length L.length)),(16,(qz k.a.p k.rs.length k.a.c)),(17,(vN i))]) (tg λ(i:Nat)=>(AM g4.x.z.n::AM g4.x.m::AM g4.y.z.n::AM g4.y.m::AI k.a.p (rowsL Cf k.rs)::AM g3.x.z.n::AM g3.x.m::AM g3.y.z.n::AM g3.y.m::AM g2.x.z.n::AM g2.x.m::AM g2.y.z.n::AM g2.y.m::AI l.p (rowsL Ca L)::AM g1.x.z.n::AM g1.x.m::AM g1.y.z.n::AM g1.y.m::AO b5 31 (EI lb)::AO b4 31 (EI la)::AO b3 31 (EI lp)::AO b2 42 (HI y)::AO b1 37 (EU x)::AI x.a.p (rowsL Ah ps)::AI x.b.p (rowsL Bn zt)::AI x.c.p (rowsL Bn ss)::AI y.a.p (rowsL EE y.rs)::AI y.b.p (rowsL Bn zt)::AI y.c.p (rowsL Bn sq)::(DJ y.rs++C2 k.rs))) (tg λ(i:Nat)=>L.length-i) 0 (xH _) (sF O) sr (λi hJ=>?_)
 have hi:=hJ
 refine zS (q4 (AK O (AK O (st' (v:=(vN L.length)) (AD O underlying72) O (st' (Aa (c:=(decide (i<L.length))) O O (DE (a:=i) (b:=L.length))) O (oNl' (zB (sL [15,16,17,80] O) (zA ?_))))))))
 refine zK O (λhc1=>?_) (λhc1=>?_)
 ·replace hc1:=xR hc1
  have hpc:=Rt k.e (i:=i) Z
  have htri:(k.rs.getD i El).t=(L.getD i (⟨0,0,0⟩:Pc)).tri:=congrArg Pc.tri hpc
  have hlo:(k.rs.getD i El).u.q=(L.getD i (⟨0,0,0⟩:Pc)).lo:=congrArg Pc.lo hpc
  have hhi:(k.rs.getD i El).v.q=(L.getD i (⟨0,0,0⟩:Pc)).hi:=congrArg Pc.hi hpc
  obtain ⟨sl1,sl2⟩:=aM hLs hc1
  rw [<-hlo] at sl1
  rw [<-hhi] at sl2
  refine zG (q1 (zM (zS (B9 (EV 22++[(22,false),(23,true),(24,true),(25,true),(26,true),(27,true),(28,true),(29,true),(30,true),(31,true),(32,true),(33,true),(34,true),(35,true),(36,false),(37,true),(38,true)]) sr (Bi O (Bi O (Am (v:=(pP (pB l.p) (pO l.p+i*11))) O (AQ (j:=i) O O l.ok underlying72 sizeOf75 O Z) (Am (v:=(pP (pB l.p) (pO l.p+(i*11+0)))) O (AA O underlying75 O sizeOf3 (Nat.add_assoc _ _ _)) (Am O (Ad (v:=(vN ((L.getD i (⟨0,0,0⟩:Pc)).tri))) (i:=13) O O (BG.ne l.ok Z) Dc (Cj DM (⟨0,0,0⟩:Pc) _ _ 0 Z jY O)) (Bi O (Bi O ?_)))))))))))
  refine Am (v:=(pP (pB k.a.p) (pO k.a.p+i*7))) O (AQ (j:=i) O O k.a.ok underlying88 sizeOf93 O Z) (Am (v:=(pP (pB k.a.p) (pO k.a.p+(i*7+0)))) O (AA O underlying93 O sizeOf3 (Nat.add_assoc _ _ _)) (Am O (Ad (v:=(vN ((k.rs.getD i El).t))) (i:=4) O O (BG.ne k.a.ok Z) Dc (Cj Bb El _ _ 0 Z jY O)) (Am O (DH (c:=false) O O (xD Z)) (Bi O (zQ (v:=(qz l.p L.length L.length)) O (AE O) (BF O) O O (zQ (v:=(vN i)) O (AE O) (BF O) O O (zQ (v:=(pP (pB l.p) (pO l.p+i*11))) O (AE O) (AQ (j:=i) O O l.ok underlying72 sizeOf75 O Z) O O (zQ (v:=(pP (pB l.p) (pO l.p+(i*11+1)))) O (AE O) (AA O underlying75 O sizeOf60 (Nat.add_assoc _ _ _)) O O (zQ (v:=(aG (AC ((L.getD i (⟨0,0,0⟩:Pc)).lo)))) O (AE O) (Ak (vs:=AC ((L.getD i (⟨0,0,0⟩:Pc)).lo)) (i:=13) O O (BG.ne l.ok Z) A9 (D_ DM (⟨0,0,0⟩:Pc) _ _ 1 5 Z jY O) O) O O (zQ (v:=(qz k.a.p k.rs.length k.a.c)) O (AE O) (BF O) O O (zQ (v:=(vN i)) O (AE O) (BF O) O O ?_)))))))))))
  refine zQ (v:=(pP (pB k.a.p) (pO k.a.p+i*7))) O (AE O) (AQ (j:=i) O O k.a.ok underlying88 sizeOf93 O Z) O O (zQ (v:=(pP (pB k.a.p) (pO k.a.p+(i*7+1)))) O (AE O) (AA O underlying93 O sizeOf84 (Nat.add_assoc _ _ _)) O O (zQ (v:=(aG (fxL ((k.rs.getD i El).u.f)))) O (AE O) (Ak (vs:=fxL ((k.rs.getD i El).u.f)) (i:=4) O O (BG.ne k.a.ok Z) Br (D_ Bb El _ _ 1 3 Z jY O) O) O O (zD O (yu O (v:=(qa true)) (AE O) (Ag (args:=[(aG (AC ((L.getD i (⟨0,0,0⟩:Pc)).lo))),(aG (fxL ((k.rs.getD i El).u.f)))]) O O call26) (λw hw=>(by rw [<-hlo];exact Vb _ ((k.rs.getD i El).u.f) Z w (λy hy=>WZ hw (λz hz=>List.mem_of_mem_drop (i:=29) (xG _ hz)) Z (λz hz b e=>lk z (List.mem_cons_of_mem _ hz) b e) y (xF _ hy)) (hT.below hw.out))) O (leB O) (zC sr (zQ (v:=(qa false)) O (AE O) (Bs (c:=false) O O) O O (Am (v:=(qa false)) O (AN O O) (Bi O (zQ (v:=(qz l.p L.length L.length)) O (AE O) (BF O) O O (zQ (v:=(vN i)) O (AE O) (BF O) O O (zQ (v:=(pP (pB l.p) (pO l.p+i*11))) O (AE O) (AQ (j:=i) O O l.ok underlying72 sizeOf75 O Z) O O ?_)))))))))))
  refine zQ (v:=(pP (pB l.p) (pO l.p+(i*11+6)))) O (AE O) (AA O underlying75 O sizeOf60 (Nat.add_assoc _ _ _)) O O (zQ (v:=(aG (AC ((L.getD i (⟨0,0,0⟩:Pc)).hi)))) O (AE O) (Ak (vs:=AC ((L.getD i (⟨0,0,0⟩:Pc)).hi)) (i:=13) O O (BG.ne l.ok Z) A9 (D_ DM (⟨0,0,0⟩:Pc) _ _ 6 5 Z jY O) O) O O (zQ (v:=(qz k.a.p k.rs.length k.a.c)) O (AE O) (BF O) O O (zQ (v:=(vN i)) O (AE O) (BF O) O O (zQ (v:=(pP (pB k.a.p) (pO k.a.p+i*7))) O (AE O) (AQ (j:=i) O O k.a.ok underlying88 sizeOf93 O Z) O O (zQ (v:=(pP (pB k.a.p) (pO k.a.p+(i*7+4)))) O (AE O) (AA O underlying93 O sizeOf84 (Nat.add_assoc _ _ _)) O O (zQ (v:=(aG (fxL ((k.rs.getD i El).v.f)))) O (AE O) (Ak (vs:=fxL ((k.rs.getD i El).v.f)) (i:=4) O O (BG.ne k.a.ok Z) Br (D_ Bb El _ _ 4 3 Z jY O) O) O O (zD O (yu O (v:=(qa true)) (AE O) (Ag (args:=[(aG (AC ((L.getD i (⟨0,0,0⟩:Pc)).hi))),(aG (fxL ((k.rs.getD i El).v.f)))]) O O call26) (λw hw=>(by rw [<-hhi];exact Vb _ ((k.rs.getD i El).v.f) Z w (λy hy=>WZ hw (λz hz=>List.mem_of_mem_drop (i:=29) (xG _ hz)) Z (λz hz b e=>lk z (List.mem_cons_of_mem _ hz) b e) y (xG _ hy)) (hT.below hw.out))) O (leB O) (zC sr (zQ (v:=(qa false)) O (AE O) (Bs (c:=false) O O) O O (Am (v:=(qa false)) O (AN O O) ?_)))))))))))
  refine zP (zB (sL [15,16,17,121] O) (zA (zU O (zG (zJ (zA (zH (AK O (st' (AX (c:=((i+1:Nat):Int)) O O (AU (a:=i) (b:=1) Z)) O (asg' O (oNl' ?_)))))))))))
  exact zB (sL [15,16,17] O) (yJ (i+1) Z Z (sF O) sr)
 ·replace hc1:=xQ hc1
  exact zW (zO (zy (zR (q2 (asg' O (oNl' (zA (zF (ret_one O (rd_tmp (v:=(qa true)) O) (λw hw=>⟨rfl,hw.outB⟩))))))))))
end
end Go.Proofs.YtcpkbjjmcleplaaGreatDoor
