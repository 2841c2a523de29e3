import Derived.Test.YtcpkbjjmcleplaaGreatDoorPart38
import Derived.Test.YtcpkbjjmcleplaaGreatDoorPart42
namespace Go.Proofs.YtcpkbjjmcleplaaGreatDoor
open Go Go.RowKit Go.Proofs.Tryz
open Go.Value renaming slice→qz,bool→qa
set_option linter.unusedVariables false
set_option linter.unusedSimpArgs false
section
set_option maxRecDepth 100000
theorem dQ:ElemT prog 168 9 1 16:=⟨underlying168,DP jV⟩
theorem JP (n:Nat) (hn:nw n<=1073741824) (w:World) (hT:ON w):Calls prog 48 #[(aG (AT n))] w (G9 w (Value.string (txB (Lib.decDigits n)))):=by
 have hT:=Jc hT
 refine I_ (args:=[(aG (AT n))]) func48 O O (leB O) (zG (sL [0] O) (q4 (A9 (cs:=AT n) O λb1=>asg' O (q6 (sL [1,2] O) (q4 (st' (v:=(pP b1 1)) (AA O underlying54 O sizeOf9 O) O (BZ 0 (Value.string (Bp n)) Tx O (st' (Bc (c:=(decide (n<18446744073709551616))) O O Cd) O (oNl' (zB (sL [1,2,10] O) ?_))))))))))
 refine zA ?_
 refine zK O (λhc0=>?_) (λhc0=>?_)
 ·replace hc0:=xR hc0
  exact q4 (st' (v:=(pP b1 0)) (AA O underlying54 O sizeOf52 O) O (BZ 0 (vK .u64 (B7 n)) G6 O (zJ (k:=12) (u:=(vK .u64 n)) O (by rw [Bj hc0]) (CC call84 (λw hw=>QN n Z w (hT.below hw.out)) O (asg' O (oNl' (zB (sL [1,2] O) (zA (zF (zH (ret_one O (rd_tmp (v:=(Value.string (txB (Lib.decDigits n)))) O) (λw hw=>⟨rfl,hw.outB⟩))))))))))))
 ·replace hc0:=xQ hc0
  refine zI (q2 (asg' O (zk 9 1 (oNl' (q1 (q4 (Ah 1 B4 O (zx (V:=λb2=>(qz (jk b2) (nw n) ((Au n).length))) (T:=27) (cs:=Ak (Au n)) (AJ O) (Ac (args:=[(aG (AT n))]) O O call85) (λw hw=>DV n Z w) O (leB O) λb2=>asg' O (oNl' (zB (sL [1,2,3,4] O) ?_))))))))))
  refine zA (zN ?_)
  refine OkC.lp7 (tg λ(lb:Nat) (bs:List Nat) (cc:Nat) (m:Nat) (p:Option Addr) (ck:Nat×Nat) (ps:List (List UInt8))=>TxJ n bs m p ck.1 ck.2 ps) (tg λ(lb:Nat) (bs:List Nat) (cc:Nat) (m:Nat) (p:Option Addr) (ck:Nat×Nat) (ps:List (List UInt8))=>[(2,(Value.string (ByteArray.mk #[]))),(4,(qz (jk lb) (nw m) cc)),(3,(qz p ck.2 ck.1))]) (tg λ(lb:Nat) (bs:List Nat) (cc:Nat) (m:Nat) (p:Option Addr) (ck:Nat×Nat) (ps:List (List UInt8))=>[AQ lb 27 (Ak bs),rowW p 9 1 ck.2 ck.1 (stL ps),AQ b1 54 (AT n)]) (tg λ(lb:Nat) (bs:List Nat) (cc:Nat) (m:Nat) (p:Option Addr) (ck:Nat×Nat) (ps:List (List UInt8))=>m) b2 (Au n) ((Au n).length) n none (0,0) ([]:List (List UInt8)) (Wv Z (CR n) (CM n) (λi hi=>Dj hi)) (sF O) sr (λlb bs cc m p ck ps hJ=>?_)
  have hTJ:=hJ
  have hTJ2:=hTJ
  obtain ⟨hbs,hbl,hbd,hmn,ho,hm,hpk,hpl,hp1,hp0⟩:=hTJ2
  have hdl:(Lib.decDigits (m%1000000000)).length<=9:=KK (k:=8) (Nat.mod_lt _ jY)
  have hdl1:1<=(Lib.decDigits (m%1000000000)).length:=by rw [Lib.decDigits];split<;>simp
  refine zV (q4 (AL O (st' (v:=(vN (nw m))) (AD O underlying169) O (st' (Bu (c:=(decide (0<(nw m)))) O O (DL (a:=0) (b:=nw m))) O (oNl' (zB (sL [2,4,3,18] O) (zA ?_)))))))
  refine zK O (λhc1=>?_) (λhc1=>?_)
  ·replace hc1:=xR hc1
   refine zI (zA (zN (q4 (AL O (zx (V:=λb3=>(Value.tuple #[(qz (jk b3) (nw m) (nw m)),(vK .u32 (m%1000000000))])) (T:=27) (cs:=Ak (CJ (nw m) (m/1000000000))) (AJ O) (Ac (args:=[(qz (jk lb) (nw m) cc),(Value.int .u32 (1000000000:Int))]) O O call86) (λw hw=>M_ m 1000000000 _ _ bs hbs hbl hbd Z Z Z w (hw.get (i:=0) O)) O (leB O) λb3=>AL O (st' (AH (v:=(qz (jk b3) (nw m) (nw m))) O O) O (st' (AH (v:=(vK .u32 (m%1000000000))) O O) O (asg' O (asg' O (q3 (sL [2,4,3,5,6] O) ?_))))))))))
   refine AL O ?_
   have hnm:nw (m/1000000000)<=nw m:=Ct (Nat.div_le_self _ _)
   refine CC (args:=[(qz (jk b3) (nw m) (nw m))]) (v:=(qz (jk b3) (nw (m/1000000000)) (nw m))) call87 (λw hw=>(by have h9:=QH b3 (nw m) (nw m) (CJ (nw m) (m/1000000000)) (Dk _ _) (by rw [Be];omega) Z Z w (hw.get (i:=0) O);rw [Sk (nw m) hnm (Nat.le_refl _)] at h9;exact h9)) O (asg' O (q3 (sL [2,4,3,6] O) (AL O (st' (An (c:=((m%1000000000:Nat):Int)) O underlying27 underlying3 (D_ Z)) O (CC call88 (λw hw=>VT (m%1000000000) Z w (hT.below hw.out)) O (asg' O (q6 (sL [2,4,3,7] O) (q4 (AL O (st' (v:=(vN (nw (m/1000000000)))) (AD O underlying169) O (st' (Bu (c:=(decide (0<(nw (m/1000000000))))) O O (DL (a:=0) (b:=nw (m/1000000000)))) O ?_)))))))))))
   refine oNl' (zB (sL [2,4,3,7,31] O) (zA ?_))
   refine yU (tg λ(sx:List UInt8)=>(m/1000000000≠0->sx=List.replicate (9-(Lib.decDigits (m%1000000000)).length) 48++Lib.decDigits (m%1000000000))/\(m/1000000000=0->sx=Lib.decDigits (m%1000000000))) (tg λ(sx:List UInt8)=>[(2,(Value.string (ByteArray.mk #[]))),(4,(qz (jk b3) (nw (m/1000000000)) (nw m))),(3,(qz p ck.2 ck.1)),(7,(Value.string (txB sx)))]) (tg λ(sx:List UInt8)=>[AQ b3 27 (Ak (CJ (nw m) (m/1000000000))),AQ lb 27 (Ak bs),rowW p 9 1 ck.2 ck.1 (stL ps),AQ b1 54 (AT n)]) ?_ ?_
   ·refine zK O (λhc2=>?_) (λhc2=>?_)
    ·replace hc2:=xR hc2
     exact zL (AL O (st' (v:=(vN ((Lib.decDigits (m%1000000000)).length))) ((show Ex _ _ _ _ _ _ (Value.int .i64 (((Lib.decDigits (m%1000000000)).length:Nat):Int)) from DF (Lib.decDigits (m%1000000000))▸C0 O underlying9)) O (st' (BT (c:=((9-(Lib.decDigits (m%1000000000)).length:Nat):Int)) O O (by rw [BY Z Z];omega)) O (ck' call89 (Yt _ Z) O (AL O (st' (v:=(Value.string (txB (List.replicate (9-(Lib.decDigits (m%1000000000)).length) 48++Lib.decDigits (m%1000000000))))) (Bt (r:=(txB (List.replicate (9-(Lib.decDigits (m%1000000000)).length) 48++Lib.decDigits (m%1000000000)))) O O (by rw [DF,DF,List.length_replicate];omega) (Dm _ _)) O (asg' O (oNl' (zB (sL [2,4,3,7] O) (zr (List.replicate (9-(Lib.decDigits (m%1000000000)).length) 48++Lib.decDigits (m%1000000000)) (⟨λ_=>rfl,λh=>by rw [h] at hc2;exact absurd hc2 jY⟩) (sF O) sr))))))))))
    ·replace hc2:=xQ hc2
     exact zI (zr (Lib.decDigits (m%1000000000)) (⟨λh=>by have h8:=CY.1 (show nw (m/1000000000)<=0 by omega);simp at h8;omega,λ_=>rfl⟩) (sF O) sr)
   ·intro sx hJ
    obtain ⟨hs1,hs0⟩:=hJ
    exact zA (zL (AL O (AL O (zf (V:=λb4=>(qz (jk b4) 1 1)) (T:=9) (cs:=[(Value.string (txB sx))]) (AJ O) (Ar (cs:=[(Value.string (txB sx))]) (pv:=[(0,(Value.string (txB sx)))]) underlying168 sizeOf9 zeroValue9 jY jY O jV) O (leB O) λb4=>yF 3 (j:=0) (cs2:=stL (ps++[sx])) dQ O ho (by simp [Lg];omega) O O O O O jY (G8 Z) Z (by rw [Qz];rfl) O λp_1 c_1 ho_1 hne_1=>asg' O (oNl' (zB (sL [2,4,3,7] O) (zM (OkQ.round7 b3 (CJ (nw m) (m/1000000000)) (nw m) (m/1000000000) p_1 (c_1,ck.2+1) (ps++[sx]) (Ww hTJ Z ho_1 hs1 hs0) (Nat.div_lt_self (by have h8:=Bn m;rcases Nat.eq_zero_or_pos m with e|e;(· rw [e,Ij] at hc1;omega);exact e) jY) (sF O) (sl (sk (sl sr)))))))))))
  ·replace hc1:=xQ hc1
   have hte:=ZG hTJ Z hn
   refine zW (zO (OkQ.round7_exit (zR (q2 (AL O (y8 1 (cs':=stL (ps).reverse) (v:=(Value.tuple #[])) (AJ O) (Ac (args:=[(qz p ck.2 ck.1)]) O O call90) O (λw hw=>Yw _ _ _ _ 9 ho hpk w (hw.holds (i:=1) O)) (λd hd=>by cases hd<;>exact (leB O)) (q3 (sL [2,4,3] O) (AL O (Ob O (args:=[(qz p ck.2 ck.1),(Value.string (ByteArray.mk #[]))]) (v:=(Value.string (txB (Lib.decDigits n)))) call91 (λw hw=>(by have h9:=VU _ _ _ (((ps).reverse)) 9 ho (by rw [List.length_reverse];exact hpk) hte.1 (by rw [hte.2.1];exact hte.2.2) w (hw.holds (i:=1) O);rw [hte.2.1] at h9;exact h9)) O (asg' O (oNl' ?_)))))))))))
   exact zB (sL [2,4,3] O) (zA (zF (ret_one O (rd_tmp (v:=(Value.string (txB (Lib.decDigits n)))) O) (λw hw=>⟨rfl,hw.outB⟩))))
end
section
set_option maxRecDepth 100000
theorem Mp (z:Int) (hz:nw z.natAbs<=1073741824) (w:World) (hT:ON w):Calls prog 47 #[(aG (Ax z))] w (G9 w (Value.string (txB (txI z)))):=by
 have hl:=JD z.natAbs
 have hT:=Jc hT
 refine I_ (args:=[(aG (Ax z))]) func47 O O (leB O) (zG (sL [0] O) (q4 (A9 (cs:=Ax z) O λb1=>asg' O (q6 (sL [1,2] O) (q4 (st' (v:=(pP b1 2)) (AA O underlying58 O sizeOf4 O) O (BZ 0 (qa (decide (z<0))) Lj O (oNl' (zB (sL [1,2,4] O) (zA ?_))))))))))
 refine zK O (λhc0=>?_) (λhc0=>?_)
 ·replace hc0:=xR hc0
  have he:txI z=45::Lib.decDigits z.natAbs:=by unfold txI;rw [if_pos hc0]
  exact q4 (st' (v:=(pP b1 0)) (AA O underlying58 O sizeOf56 O) O (st' (v:=(pP b1 0)) (AA O underlying56 O sizeOf54 O) O (Br 0 (AT z.natAbs) B4 O (Ob O call48 (λw hw=>JP z.natAbs Z w (hT.below hw.out)) O (st' (v:=(Value.string (txB (45::Lib.decDigits z.natAbs)))) (Bt (r:=(txB (45::Lib.decDigits z.natAbs))) O O (by rw [DF];show 1+_<=_;omega) (Dm [45] _)) O (asg' O (oNl' (zB (sL [1,2] O) (zA (zF (zH (ret_one O (rd_tmp (v:=(Value.string (txB (45::Lib.decDigits z.natAbs)))) O) (λw hw=>⟨by rw [he],hw.outB⟩)))))))))))))
 ·replace hc0:=xQ hc0
  have he:txI z=Lib.decDigits z.natAbs:=by unfold txI;rw [if_neg hc0]
  exact zI (q2 (st' (v:=(pP b1 0)) (AA O underlying58 O sizeOf56 O) O (st' (v:=(pP b1 0)) (AA O underlying56 O sizeOf54 O) O (Br 0 (AT z.natAbs) B4 O (Ob O call48 (λw hw=>JP z.natAbs Z w (hT.below hw.out)) O (asg' O (oNl' (zB (sL [1,2] O) (zA (zF (ret_one O (rd_tmp (v:=(Value.string (txB (Lib.decDigits z.natAbs)))) O) (λw hw=>⟨by rw [he],hw.outB⟩))))))))))))
theorem Sv (q:Rat) (hs:Sz q<=16777216) (w:World) (hT:ON w):Calls prog 19 #[(aG (AB q))] w (G9 w (Value.string (txB (XG q)))):=by
 have hl1:=SQ q.num
 have hl2:=JD q.den
 have s1:=Cz q
 have s2:=Cc q
 have hT:=Jc hT
 refine I_ (args:=[(aG (AB q))]) func19 O O (leB O) (zG (sL [0] O) (q4 (A9 (cs:=AB q) O λb1=>asg' O (q6 (sL [1,2] O) (q4 (Ah 0 Ay O (ck' call46 (F2 q) O (oNl' (zB (sL [1,2,4] O) (zA ?_))))))))))
 refine zK O (λhc0=>?_) (λhc0=>?_)
 ·replace hc0:=xR hc0
  have he:XG q=txI q.num:=by unfold XG;rw [if_pos hc0]
  exact q4 (st' (v:=(pP b1 0)) (AA O underlying60 O sizeOf58 O) O (Br 0 (Ax q.num) DZ O (Ob O call47 (λw hw=>Mp q.num Z w (hT.below hw.out)) O (asg' O (oNl' (zB (sL [1,2] O) (zA (zF (zH (ret_one O (rd_tmp (v:=(Value.string (txB (txI q.num)))) O) (λw hw=>⟨by rw [he],hw.outB⟩)))))))))))
 ·replace hc0:=xQ hc0
  have he:XG q=txI q.num++[47]++Lib.decDigits q.den:=by unfold XG;rw [if_neg hc0,List.append_assoc];rfl
  refine zI (q1 (B8 [(0,true),(1,true),(4,true),(2,false),(3,true),(5,false),(6,false),(7,true),(8,true)] sr (Ao (v:=(pP b1 0)) O (AA O underlying60 O sizeOf58 O) (Dd 0 (Ax q.num) DZ O (Bv 0 Ay O (zD O (Ob O call47 (λw hw=>Mp q.num Z w (hT.below hw.out)) O (zC sr (Ao (v:=(Value.string (txB (txI q.num++[47])))) O (Bt (r:=(txB (txI q.num++[47]))) O O (by rw [DF];show _+1<=_;omega) (Dm _ [47])) (zD O (ck' call49 (den_ok q Z) O ?_)))))))))))
  exact zC sr (zD O (Ob O call48 (λw hw=>JP q.den Z w (hT.below hw.out)) O (zC sr (Ao (v:=(Value.string (txB (txI q.num++[47]++Lib.decDigits q.den)))) O (Bt (r:=(txB (txI q.num++[47]++Lib.decDigits q.den))) O O (by rw [DF,DF,xJ,List.length_singleton];omega) (Dm _ _)) (pS' O (zP (zB (sL [1,2] O) (zA (zF (ret_one O (rd_tmp (v:=(Value.string (txB (txI q.num++[47]++Lib.decDigits q.den)))) O) (λw hw=>⟨by rw [he],hw.outB⟩)))))))))))
theorem UO (q:Rat) (b:FX q) (hs:Sz q<=16777216) (w:World) {S:Nat->Prop} (hb:Ro S w b) (hT:ON w):Calls prog 26 #[(aG (AB q)),(aG (fxL b))] w (G9 w (qa true)):=by
 have hT:=Jc hT
 have lb:=Bs (W:=z0 w) hb
 refine H6 (args:=[(aG (AB q)),(aG (fxL b))]) (L:=[AM b.z.n,AM b.m]) func26 O O (leB O) (L_ hb Al) (zG (sL [0,1] O) (q4 (A9 (cs:=AB q) O λb1=>A9 (cs:=fxL b) O λb2=>asg' O (q6 (sL [2,3,4] O) (B8 [(0,true),(2,true),(1,false),(3,false),(4,true),(5,true)] sr (Bv 1 Ay O (Bv 0 Bm O (zD O (Ob O call19 (λw hw=>Sv q Z w (hT.below hw.out)) O ?_)))))))))
 exact zC sr (zD O (CC call59 (λw hw=>V7 b Z w (inS hw 2 O lb)) O (zC sr (Ao O (Bc (c:=true) O O jX) (pS' O (zP (zB (sL [4] O) (zA (zF (ret_one O (rd_tmp (v:=(qa true)) O) (λw hw=>⟨rfl,hw.outB⟩)))))))))))
end
section
set_option maxRecDepth 100000
theorem TX {ps:List Pt} {zt ss:List Z3} (x:Ji ps zt ss) {v:Pt} (q:PX v) (hl:zt.length<=1000000) (hN:ps.length<=1000000) (hz:∀k,BD (BJ ps k)<=1000) (hv:BD v<=4000) (w:World) {S:Nat->Prop} (hq:Ro S w q) (hx:Ro S w x):Calls prog 21 #[(aG (G1 x)),(aG (AZ q))] w (AY w (.tuple #[(vI (fdA ps zt v).1),(vN (fdA ps zt v).2)])):=by
 by_cases h:Du ps.length zt=true
 ·rw [fdA,if_pos h]
  obtain ⟨ts,rfl,hnb⟩:=LJ h
  obtain ⟨y,hy,_,hro⟩:=Zi x
  rw [xI] at hl
  have k:=Qm y q hl hN hnb hz hv w hq (hro hx)
  rw [hy] at k
  rw [K6]
  exact k
 ·rw [fdA,if_neg h]
  rw [Bool.not_eq_true] at h
  exact TY x q h hl w hq hx
theorem V9 {ps:List Pt} {zt ss:List Z3} (x:Ji ps zt ss) {u v:Pt} (a:PX u) (b:PX v) (hl:zt.length<=1000000) (hN:ps.length<=1000000) (hz:∀k,BD (BJ ps k)<=6) (hu:BD u<=6) (hv:BD v<=6) (w:World) {S:Nat->Prop} (ha:Ro S w a) (hb:Ro S w b) (hx:Ro S w x):Calls prog 23 #[(aG (G1 x)),(aG (AZ a)),(aG (AZ b))] w (Ai (UU (JX ps zt u v)) S w):=by
 by_cases hab:u=v
 ·subst hab
  rw [Yq]
  exact WA x a b Z w ha hb hx
 ·by_cases h:Du ps.length zt=true
  ·obtain ⟨ts,rfl,hnb⟩:=LJ h
   obtain ⟨y,hy,_,hro⟩:=Zi x
   rw [xI] at hl
   have k:=V_ y a b hab hl hN hnb hz hu hv w ha hb (hro hx)
   rw [hy] at k
   rw [JX,if_neg hab,K6,nZ,if_pos h,xI,<-WF (f:=DS) (g:=DT) hab]
   exact k
  ·rw [Bool.not_eq_true] at h
   rw [Yp h]
   exact WB x a b hab Z h hl w ha hb hx
theorem Yr {ps:List Pt} {zt:List Z3} {a b:Pt} (hz:∀i,BD (BJ ps i)<=4) (sa:BD a<=6) (sb:BD b<=6):∀x∈JX ps zt a b,ZR x:=λx hx=>by
 unfold JX at hx
 split at hx
 ·cases hx
 ·exact LU (ts:=zt.map natT) hz sa sb (nZ ps.length zt) (by rw [xI];exact Vh _ _) x ((GE _).mem_iff.1 hx)
theorem Yo {l:List Pc} (h:∀x∈l,ZR x) {i:Nat} (hi:i<l.length):ZR (l.getD i ⟨0,0,0⟩):=by
 rw [List.getD,xN hi];exact h _ (List.getElem_mem hi)
theorem WD {ps:List Pt} {zt:List Z3} {a b:Pt}:(JX ps zt a b).length<=zt.length:=by
 unfold JX
 split
 ·exact xH _
 ·show (J_ _).length<=_
  rw [Lf]
  exact xK (GC _) (Vh _ _)
set_option maxHeartbeats 4000000 in
theorem Tz {ps:List Pt} {zt ss sq:List Z3} (x:MZ ps zt ss) (y:Ji ps zt sq) (lp la lb:PD) (kp:lp.ok) (ka:la.ok) (kb:lb.ok) (hl:zt.length<=1000) (hN:ps.length<=1000000) (hz4:∀k,BD (BJ ps k)<=4) (w:World) {S:Nat->Prop} (hx:Ro S w x) (hy:Ro S w y) (hT:ON w):Calls prog 7 #[(aG (D4 x)),(aG (G1 y)),(aG (Cn lp)),(aG (Cn la)),(aG (Cn lb))] w (G9 w (qa true)):=by
 obtain ⟨p,hp⟩:∃q,q=Gh lp:=⟨_,rfl⟩
 have zp:BD p<=4:=by rw [hp];exact IT kp
 obtain ⟨a,ha⟩:∃q,q=Gh la:=⟨_,rfl⟩
 have za:BD a<=4:=by rw [ha];exact IT ka
 obtain ⟨b,hb⟩:∃q,q=Gh lb:=⟨_,rfl⟩
 have zb:BD b<=4:=by rw [hb];exact IT kb
 have hz6:∀k,BD (BJ ps k)<=6:=λk=>xK (hz4 k) jY
 have hz1:∀k,BD (BJ ps k)<=1000:=λk=>xK (hz4 k) jY
 obtain ⟨⟨ft,fw⟩,hf⟩:∃z,z=fdA ps zt p:=⟨_,rfl⟩
 obtain ⟨nr,hnr⟩:∃z,z=(nerF (Oo ps p) ps.length).1:=⟨_,rfl⟩
 obtain ⟨L,hL⟩:∃l,l=JX ps zt a b:=⟨_,rfl⟩
 have hLs:∀x∈L,ZR x:=by rw [hL];exact Yr hz4 Z Z
 have hLl:L.length<=zt.length:=by rw [hL];exact WD
 have hT:=Jc hT
 have lx:=Bs (W:=z0 w) hx
 have ly:=Bs (W:=z0 w) hy
 refine H6 (args:=[(aG (D4 x)),(aG (G1 y)),(aG (Cn lp)),(aG (Cn la)),(aG (Cn lb))]) (L:=(AI x.a.p (rowsL Ae ps)::AI x.b.p (rowsL BB zt)::AI x.c.p (rowsL BB ss)::AI y.a.p (rowsL Dp y.rs)::AI y.b.p (rowsL BB zt)::AI y.c.p (rowsL BB sq)::DE y.rs)) func7 O O (leB O) (GN hx (XF hy)) (zG (sL [0,1,2,3,4] O) (q4 (A9 (cs:=D4 x) O λb1=>A9 (cs:=G1 y) O λb2=>A9 (cs:=Cn lp) O λb3=>A9 (cs:=Cn la) O λb4=>A9 (cs:=Cn lb) O λb5=>asg' O (q6 (sL [5,6,7,8,9,10] O) (B8 [(0,true),(1,true),(2,false),(3,false),(4,true),(5,true),(6,true),(7,true),(8,true)] sr (Bv 4 Fy O ?_))))))
 refine Bv 2 IH O (zD O (CC (args:=[(aG (Cn lp))]) (v:=(aG (Ae p))) call20 (λw hw=>(by rw [hp];exact Kb lp kp w)) O (zC sr (zD O (CC (args:=[(aG (D4 x)),(aG (Ae p))]) (v:=(Value.tuple #[(vI ft),(vN fw)])) call15 (λw hw=>(by have h9:=UK x Z p hz4 Z w (inS hw 5 O lx);rw [<-hf] at h9;exact h9)) O (zC sr (Bq O (Ao O (AH (v:=(vI ft)) O O) (Ao O (AH (v:=(vN fw)) O O) (pS' O (pS' O ?_)))))))))))
 refine zP (zB (sL [5,6,7,8,9,10,11,12] O) (q1 (B8 [(0,true),(1,true),(2,false),(3,false),(4,true),(5,true),(6,true),(7,true),(8,true)] sr (Bv 3 EW O (Bv 2 IH O (zD O (cP (S:=S) (x:=p) (args:=[(aG (Cn lp))]) call22 (λw hw=>(Ai.cast (T:=λi=>PX i) hp.symm (IR lp kp w))) O O O λg1 lg1=>zC (sl (sl (sl (sl sr)))) (zD O (CC (args:=[(aG (G1 y)),(aG (AZ g1))]) (v:=(Value.tuple #[(vI ft),(vN fw)])) call21 (λw hw=>(by have h9:=TX y g1 Z Z hz1 Z w (inS hw 0 O lg1) (Mt (x:=y) hw 12 O 15 (λz hz=>hz) ly);rw [<-hf] at h9;exact h9)) O (zC (sl (sl (sl (sl sr)))) ?_))))))))))
 refine Bq O (Ao O (AH (v:=(vI ft)) O O) (Ao O (AH (v:=(vN fw)) O O) (pS' O (pS' O (zP (zB (sL [5,6,7,8,9,10,11,12,13,14] O) (q1 (B8 [(0,true),(1,true),(3,true),(2,false),(4,false),(5,false),(6,true)] sr (Bv 8 Fy O (Bv 5 IH O (Bv 4 IH O ?_)))))))))))
 refine zD O (CC (args:=[(aG (Cn la))]) (v:=(aG (Ae a))) call20 (λw hw=>(by rw [ha];exact Kb la ka w)) O (zC sr (zD O (CC (args:=[(aG (Cn lb))]) (v:=(aG (Ae b))) call20 (λw hw=>(by rw [hb];exact Kb lb kb w)) O (zC sr (zD O (zu (S:=S) (α:=CX (rowsL CI L) L.length) (args:=[(aG (D4 x)),(aG (Ae a)),(aG (Ae b))]) call18 (λw hw=>(by have h9:=XM x Z a b hz4 Z Z w (inS hw 9 O lx);rw [<-hL] at h9;exact h9)) O O O λl ll=>zC (sl sr) (pS' O (zP (zB (sL [5,6,7,8,9,10,11,12,13,14,15] O) ?_))))))))))
 refine q1 (B8 [(0,true),(1,true),(3,true),(2,false),(4,false),(5,false),(6,true)] sr (Bv 8 EW O (Bv 6 IH O (Bv 5 IH O (zD O (cP (S:=S) (x:=a) (args:=[(aG (Cn la))]) call22 (λw hw=>(Ai.cast (T:=λi=>PX i) ha.symm (IR la ka w))) O O O λg2 lg2=>zC (sl (sl (sl (sl sr)))) (zD O (cP (S:=S) (x:=b) (args:=[(aG (Cn lb))]) call22 (λw hw=>(Ai.cast (T:=λi=>PX i) hb.symm (IR lb kb w))) O O O λg3 lg3=>zC (sl (sl (sl (sl (sl (sl (sl (sl sr)))))))) (zD O ?_)))))))))
 refine zu (S:=S) (α:=UU L) (args:=[(aG (G1 y)),(aG (AZ g2)),(aG (AZ g3))]) call23 (λw hw=>(by have h9:=V9 y g2 g3 Z Z hz6 Z Z w (inS hw 4 O lg2) (inS hw 0 O lg3) (Mt (x:=y) hw 21 O 24 (λz hz=>hz) ly);rw [<-hL] at h9;exact h9)) O O O λk lk=>yQ (L2:=(AI k.a.p (rowsL CO k.rs)::AM g3.x.z.n::AM g3.x.m::AM g3.y.z.n::AM g3.y.m::AM g2.x.z.n::AM g2.x.m::AM g2.y.z.n::AM g2.y.m::AI l.p (rowsL CI L)::AM g1.x.z.n::AM g1.x.m::AM g1.y.z.n::AM g1.y.m::AQ b5 31 (Cn lb)::AQ b4 31 (Cn la)::AQ b3 31 (Cn lp)::AQ b2 42 (G1 y)::AQ b1 37 (D4 x)::AI x.a.p (rowsL Ae ps)::AI x.b.p (rowsL BB zt)::AI x.c.p (rowsL BB ss)::AI y.a.p (rowsL Dp y.rs)::AI y.b.p (rowsL BB zt)::AI y.c.p (rowsL BB sq)::(DE y.rs++Cj k.rs))) (show List.Perm _ (AI k.a.p (rowsL CO k.rs)::AM g3.x.z.n::AM g3.x.m::AM g3.y.z.n::AM g3.y.m::AM g2.x.z.n::AM g2.x.m::AM g2.y.z.n::AM g2.y.m::AI l.p (rowsL CI L)::AM g1.x.z.n::AM g1.x.m::AM g1.y.z.n::AM g1.y.m::AQ b5 31 (Cn lb)::AQ b4 31 (Cn la)::AQ b3 31 (Cn lp)::AQ b2 42 (G1 y)::AQ b1 37 (D4 x)::AI x.a.p (rowsL Ae ps)::AI x.b.p (rowsL BB zt)::AI x.c.p (rowsL BB ss)::AI y.a.p (rowsL Dp y.rs)::AI y.b.p (rowsL BB zt)::AI y.c.p (rowsL BB sq)::(DE y.rs++Cj k.rs)) from V2 [AI k.a.p (rowsL CO k.rs)] (Cj k.rs) (AM g3.x.z.n::AM g3.x.m::AM g3.y.z.n::AM g3.y.m::AM g2.x.z.n::AM g2.x.m::AM g2.y.z.n::AM g2.y.m::AI l.p (rowsL CI L)::AM g1.x.z.n::AM g1.x.m::AM g1.y.z.n::AM g1.y.m::AQ b5 31 (Cn lb)::AQ b4 31 (Cn la)::AQ b3 31 (Cn lp)::AQ b2 42 (G1 y)::AQ b1 37 (D4 x)::AI x.a.p (rowsL Ae ps)::AI x.b.p (rowsL BB zt)::AI x.c.p (rowsL BB ss)::AI y.a.p (rowsL Dp y.rs)::AI y.b.p (rowsL BB zt)::AI y.c.p (rowsL BB sq)::DE y.rs)) ?_
 have hkl:=k.len
 refine zC (sl (sl (sl (sl (sl (sl (sl (sl (sl (sk (sk (sk (sk (sk (sk (sk (sk (sk (sk (sk (sk (sk (sk (sk (sk (List.sublist_append_left _ _)))))))))))))))))))))))))) (pS' O (zP (zB (sL [5,6,7,8,9,10,11,12,13,14,15,16] O) (q1 (zV (B8 (Ed 25++[(27,true),(28,true),(25,false),(26,false),(29,false),(30,false),(31,true),(32,true)]) sr (Bq O (Bq O (Ao O (C1 (c:=false) O O (xz Z)) (Bq O (zQ (v:=(vN fw)) O (AE O) (A7 O) O O ?_)))))))))))
 refine zQ (v:=(vN fw)) O (AE O) (A7 O) O O (zQ (v:=(qa false)) O (AE O) (C1 (c:=false) O O (xz Z)) O O (Ao (v:=(qa false)) O (AN O O) (Bq O (zQ (v:=(qz l.p L.length L.length)) O (AE O) (A7 O) O O (zQ (v:=(vN L.length)) O (AE O) (AD O underlying72) O O (zQ (v:=(qz k.a.p k.rs.length k.a.c)) O (AE O) (A7 O) O O (zQ (v:=(vN k.rs.length)) O (AE O) (AD O underlying88) O O (zQ (v:=(qa false)) O (AE O) (C1 (c:=false) O O (xz Z)) O O (Ao (v:=(qa false)) O (AN O O) (Bq O (zQ (v:=(qz l.p L.length L.length)) O (AE O) (A7 O) O O ?_)))))))))))
 refine zQ (v:=(vN L.length)) O (AE O) (Nd O underlying72) O O (zQ (v:=(qz l.p L.length L.length)) O (AE O) (A7 O) O O (zQ (v:=(vN L.length)) O (AE O) (AD O underlying72) O O (zQ (v:=(qa false)) O (AE O) (Bu (c:=false) O O (xz Z)) O O (Ao (v:=(qa false)) O (AN O O) (Bq O (zQ (v:=(aG (D4 x))) O (AE O) (AW (i:=18) (vs:=D4 x) O O Fy.a Fy.s O O) O O (zQ (v:=(aG (Cn lp))) O (AE O) (AW (i:=16) (vs:=Cn lp) O O IH.a IH.s O O) O O (zQ (v:=(aG (G1 y))) O (AE O) (AW (i:=17) (vs:=G1 y) O O EW.a EW.s O O) O O (zQ (v:=(aG (Cn lp))) O (AE O) (AW (i:=16) (vs:=Cn lp) O O IH.a IH.s O O) O O (zD O (zc (v:=(aG (Ae p))) (AE O) (Ac (args:=[(aG (Cn lp))]) O O call20) (λw hw=>(by rw [hp];exact Kb lp kp w)) O (leB O) ?_)))))))))))
 refine zC sr (zD O (zc (v:=(vI nr)) (AE O) (Ac (args:=[(aG (D4 x)),(aG (Ae p))]) O O call24) (λw hw=>(by have h9:=UN x p Z hz4 Z w (inS hw 19 O lx);rw [aA,<-hnr] at h9;exact h9)) O (leB O) (zC sr (zD O (yW (AE O) (cP (S:=S) (x:=p) (args:=[(aG (Cn lp))]) call22 (λw hw=>(Ai.cast (T:=λi=>PX i) hp.symm (IR lp kp w))) O O O λg4 lg4=>zC (sl (sl (sl (sl sr)))) (zD O (zc (v:=(vI nr)) (AE O) (Ac (args:=[(aG (G1 y)),(aG (AZ g4))]) O O call25) (λw hw=>(by have h9:=V8 y g4 Z hz1 Z w (inS hw 0 O lg4) (Mt (x:=y) hw 26 O 29 (λz hz=>(xF _ hz)) ly);rw [<-hnr] at h9;exact h9)) O (leB O) (zC (sl (sl (sl (sl sr)))) (zQ (v:=(qa false)) O (AE O) (C1 (c:=false) O O (xz Z)) O O ?_))))))))))
 refine Ao (v:=(qa false)) O (AN O O) (zP (zB (sL [5,6,7,8,9,10,15,16,76] O) (zA (zU O (zI (q1 (q4 (asg' O (oNl' (zB (sL [5,6,7,8,9,10,15,16,17] O) (zA ?_)))))))))))
 refine zN ?_
 refine yO (tg λ(i:Nat)=>i<=L.length) (tg λ(i:Nat)=>[(15,(qz l.p L.length L.length)),(16,(qz k.a.p k.rs.length k.a.c)),(17,(vN i))]) (tg λ(i:Nat)=>(AM g4.x.z.n::AM g4.x.m::AM g4.y.z.n::AM g4.y.m::AI k.a.p (rowsL CO k.rs)::AM g3.x.z.n::AM g3.x.m::AM g3.y.z.n::AM g3.y.m::AM g2.x.z.n::AM g2.x.m::AM g2.y.z.n::AM g2.y.m::AI l.p (rowsL CI L)::AM g1.x.z.n::AM g1.x.m::AM g1.y.z.n::AM g1.y.m::AQ b5 31 (Cn lb)::AQ b4 31 (Cn la)::AQ b3 31 (Cn lp)::AQ b2 42 (G1 y)::AQ b1 37 (D4 x)::AI x.a.p (rowsL Ae ps)::AI x.b.p (rowsL BB zt)::AI x.c.p (rowsL BB ss)::AI y.a.p (rowsL Dp y.rs)::AI y.b.p (rowsL BB zt)::AI y.c.p (rowsL BB sq)::(DE y.rs++Cj k.rs))) (tg λ(i:Nat)=>L.length-i) 0 (xH _) (sF O) sr (λi hJ=>?_)
 have hi:=hJ
 refine zV (q4 (AL O (AL O (st' (v:=(vN L.length)) (AD O underlying72) O (st' (Ag (c:=(decide (i<L.length))) O O (DL (a:=i) (b:=L.length))) O (oNl' (zB (sL [15,16,17,80] O) (zA ?_))))))))
 refine zK O (λhc1=>?_) (λhc1=>?_)
 ·replace hc1:=xR hc1
  have hpc:=Qi k.e (i:=i) Z
  have htri:(k.rs.getD i EH).t=(L.getD i (⟨0,0,0⟩:Pc)).tri:=congrArg Pc.tri hpc
  have hlo:(k.rs.getD i EH).u.q=(L.getD i (⟨0,0,0⟩:Pc)).lo:=congrArg Pc.lo hpc
  have hhi:(k.rs.getD i EH).v.q=(L.getD i (⟨0,0,0⟩:Pc)).hi:=congrArg Pc.hi hpc
  obtain ⟨sl1,sl2⟩:=Yo hLs hc1
  rw [<-hlo] at sl1
  rw [<-hhi] at sl2
  refine zI (q1 (zN (zV (B8 (Ed 22++[(22,false),(23,true),(24,true),(25,true),(26,true),(27,true),(28,true),(29,true),(30,true),(31,true),(32,true),(33,true),(34,true),(35,true),(36,false),(37,true),(38,true)]) sr (Bq O (Bq O (Ao (v:=(pP (pB l.p) (pO l.p+i*11))) O (AU (j:=i) O O l.ok underlying72 sizeOf75 O Z) (Ao (v:=(pP (pB l.p) (pO l.p+(i*11+0)))) O (AA O underlying75 O sizeOf3 (Nat.add_assoc _ _ _)) (Ao O (Aj (v:=(vN ((L.getD i (⟨0,0,0⟩:Pc)).tri))) (i:=13) O O (BI.ne l.ok Z) Dr (EU C5 (⟨0,0,0⟩:Pc) _ _ 0 Z jY O)) (Bq O (Bq O ?_)))))))))))
  refine Ao (v:=(pP (pB k.a.p) (pO k.a.p+i*7))) O (AU (j:=i) O O k.a.ok underlying88 sizeOf93 O Z) (Ao (v:=(pP (pB k.a.p) (pO k.a.p+(i*7+0)))) O (AA O underlying93 O sizeOf3 (Nat.add_assoc _ _ _)) (Ao O (Aj (v:=(vN ((k.rs.getD i EH).t))) (i:=4) O O (BI.ne k.a.ok Z) Dr (EU BV EH _ _ 0 Z jY O)) (Ao O (C1 (c:=false) O O (xz Z)) (Bq O (zQ (v:=(qz l.p L.length L.length)) O (AE O) (A7 O) O O (zQ (v:=(vN i)) O (AE O) (A7 O) O O (zQ (v:=(pP (pB l.p) (pO l.p+i*11))) O (AE O) (AU (j:=i) O O l.ok underlying72 sizeOf75 O Z) O O (zQ (v:=(pP (pB l.p) (pO l.p+(i*11+1)))) O (AE O) (AA O underlying75 O sizeOf60 (Nat.add_assoc _ _ _)) O O (zQ (v:=(aG (AB ((L.getD i (⟨0,0,0⟩:Pc)).lo)))) O (AE O) (Af (vs:=AB ((L.getD i (⟨0,0,0⟩:Pc)).lo)) (i:=13) O O (BI.ne l.ok Z) Ay (C2 C5 (⟨0,0,0⟩:Pc) _ _ 1 5 Z jY O) O) O O (zQ (v:=(qz k.a.p k.rs.length k.a.c)) O (AE O) (A7 O) O O (zQ (v:=(vN i)) O (AE O) (A7 O) O O ?_)))))))))))
  refine zQ (v:=(pP (pB k.a.p) (pO k.a.p+i*7))) O (AE O) (AU (j:=i) O O k.a.ok underlying88 sizeOf93 O Z) O O (zQ (v:=(pP (pB k.a.p) (pO k.a.p+(i*7+1)))) O (AE O) (AA O underlying93 O sizeOf84 (Nat.add_assoc _ _ _)) O O (zQ (v:=(aG (fxL ((k.rs.getD i EH).u.f)))) O (AE O) (Af (vs:=fxL ((k.rs.getD i EH).u.f)) (i:=4) O O (BI.ne k.a.ok Z) Bm (C2 BV EH _ _ 1 3 Z jY O) O) O O (zD O (yu O (v:=(qa true)) (AE O) (Ac (args:=[(aG (AB ((L.getD i (⟨0,0,0⟩:Pc)).lo))),(aG (fxL ((k.rs.getD i EH).u.f)))]) O O call26) (λw hw=>(by rw [<-hlo];exact UO _ ((k.rs.getD i EH).u.f) Z w (λy hy=>VO hw (λz hz=>List.mem_of_mem_drop (i:=29) (xG _ hz)) Z (λz hz b e=>lk z (List.mem_cons_of_mem _ hz) b e) y (xF _ hy)) (hT.below hw.out))) O (leB O) (zC sr (zQ (v:=(qa false)) O (AE O) (Bh (c:=false) O O) O O (Ao (v:=(qa false)) O (AN O O) (Bq O (zQ (v:=(qz l.p L.length L.length)) O (AE O) (A7 O) O O (zQ (v:=(vN i)) O (AE O) (A7 O) O O (zQ (v:=(pP (pB l.p) (pO l.p+i*11))) O (AE O) (AU (j:=i) O O l.ok underlying72 sizeOf75 O Z) O O ?_)))))))))))
  refine zQ (v:=(pP (pB l.p) (pO l.p+(i*11+6)))) O (AE O) (AA O underlying75 O sizeOf60 (Nat.add_assoc _ _ _)) O O (zQ (v:=(aG (AB ((L.getD i (⟨0,0,0⟩:Pc)).hi)))) O (AE O) (Af (vs:=AB ((L.getD i (⟨0,0,0⟩:Pc)).hi)) (i:=13) O O (BI.ne l.ok Z) Ay (C2 C5 (⟨0,0,0⟩:Pc) _ _ 6 5 Z jY O) O) O O (zQ (v:=(qz k.a.p k.rs.length k.a.c)) O (AE O) (A7 O) O O (zQ (v:=(vN i)) O (AE O) (A7 O) O O (zQ (v:=(pP (pB k.a.p) (pO k.a.p+i*7))) O (AE O) (AU (j:=i) O O k.a.ok underlying88 sizeOf93 O Z) O O (zQ (v:=(pP (pB k.a.p) (pO k.a.p+(i*7+4)))) O (AE O) (AA O underlying93 O sizeOf84 (Nat.add_assoc _ _ _)) O O (zQ (v:=(aG (fxL ((k.rs.getD i EH).v.f)))) O (AE O) (Af (vs:=fxL ((k.rs.getD i EH).v.f)) (i:=4) O O (BI.ne k.a.ok Z) Bm (C2 BV EH _ _ 4 3 Z jY O) O) O O (zD O (yu O (v:=(qa true)) (AE O) (Ac (args:=[(aG (AB ((L.getD i (⟨0,0,0⟩:Pc)).hi))),(aG (fxL ((k.rs.getD i EH).v.f)))]) O O call26) (λw hw=>(by rw [<-hhi];exact UO _ ((k.rs.getD i EH).v.f) Z w (λy hy=>VO hw (λz hz=>List.mem_of_mem_drop (i:=29) (xG _ hz)) Z (λz hz b e=>lk z (List.mem_cons_of_mem _ hz) b e) y (xG _ hy)) (hT.below hw.out))) O (leB O) (zC sr (zQ (v:=(qa false)) O (AE O) (Bh (c:=false) O O) O O (Ao (v:=(qa false)) O (AN O O) ?_)))))))))))
  refine zP (zB (sL [15,16,17,121] O) (zA (zU O (zI (zM (zA (zL (AL O (st' (Ad (c:=((i+1:Nat):Int)) O O (Ab (a:=i) (b:=1) Z)) O (asg' O (oNl' ?_)))))))))))
  exact zB (sL [15,16,17] O) (yC (i+1) Z Z (sF O) sr)
 ·replace hc1:=xQ hc1
  exact zW (zO (zn (zR (q2 (asg' O (oNl' (zA (zF (ret_one O (rd_tmp (v:=(qa true)) O) (λw hw=>⟨rfl,hw.outB⟩))))))))))
end
end Go.Proofs.YtcpkbjjmcleplaaGreatDoor
