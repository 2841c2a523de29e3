import Derived.Test.YtcpkbjjmcleplaaGreatDoorPart31
namespace Go.Proofs.YtcpkbjjmcleplaaGreatDoor
open Go Go.RowKit Go.Proofs.Tryz
open Go.Value renaming slice→qz,bool→qa
set_option linter.unusedVariables false
set_option linter.unusedSimpArgs false
section
set_option maxRecDepth 100000
theorem OK {ps:List Pt} {ts:List T3} {ss:List Z3} (x:MN ps ts ss) (t:Nat) (ht:t<ts.length) (hk:OJ ps.length (ts.getD t (0,0,0))=true) (w:World) {S:Nat->Prop} (hx:Ro S w x):Calls prog 69 #[(aG (cQ x)),(vN t)] w (AY w (Value.tuple #[(aG (Ae (BJ ps (ts.getD t (0,0,0)).1))),(aG (Ae (BJ ps (ts.getD t (0,0,0)).2.1))),(aG (Ae (BJ ps (ts.getD t (0,0,0)).2.2)))])):=by
 obtain ⟨k1,k2,k3⟩:=LK hk
 have lx:=Bs (W:=w) hx
 refine AX (args:=[(aG (cQ x)),(vN t)]) (L:=[AI x.a.p (rowsL Ae ps),AI x.b.p (rowsL Bk ts),AI x.c.p (rowsL BB ss)]) func69 O O (leB O) (GN hx Al) (zG (sL [0,1] O) (q4 (A9 (cs:=cQ x) O λb1=>al E6 O λb2=>al E6 O λb3=>al E6 O λb4=>q6 (sL [1,2,4,5,6] O) (q4 (AL O (st' (Ag (c:=false) O O jX) O (AL O ?_)))))))
 refine FV O (BN (v:=(pP b1 1)) O (AA O underlying37 O sizeOf23 O) (BN (v:=(qz x.b.p ts.length x.b.c)) O (AP (i:=3) (v:=(qz x.b.p ts.length x.b.c)) O O HY.a O) (BN (v:=(vN ts.length)) O (AD O underlying23) (BN (v:=(qa false)) O (CW (c:=false) O O (by simp;omega)) (st' (v:=(qa false)) (AN O O) O (oNl' (zB (sL [1,2,4,5,6,17] O) (zA (zU O (zI (q1 ?_)))))))))))
 refine B8 (Ed 8++[(8,false),(9,false),(10,true)]) sr (Ao (v:=(pP b1 1)) O (AA O underlying37 O sizeOf23 O) (Cm 3 (qz x.b.p ts.length x.b.c) HY O (Bq O (Ao (v:=(pP (pB x.b.p) (pO x.b.p+t*3))) O (AU (j:=t) O O x.b.ok underlying23 sizeOf64 O Z) (Ao (v:=(aG (Bk (ts.getD t jJ)))) O (Af (vs:=Bk (ts.getD t jJ)) (i:=5) O O (BI.ne x.b.ok Z) Wl (BG Gs _ _ _ Z) (Gs _)) (Ao (v:=(pP b1 0)) O (AA O underlying37 O sizeOf35 O) (Cm 3 (qz x.a.p ps.length x.a.c) KA O (Ao (v:=(vN ps.length)) O (AD O underlying35) (zD O (al bD O λb5=>zC (sl sr) ?_))))))))))
 refine zD O (Am O sizeOf64 O (zC (sl sr) (pS' O (zP (zB (sL [1,2,4,5,6,7,8] O) (q1 (q4 (st' (v:=(pP b5 0)) (AC (j:=0) O O underlying64 sizeOf3 O jY O) O (BZ 0 (vN ((ts.getD t jJ).1)) Dr O (AL O (CC (args:=[(vN ((ts.getD t jJ).1)),(vN ps.length)]) (v:=(qa true)) call118 (λw hw=>(by have h9:=ET ((ts.getD t jJ).1) ps.length w;rw [xE Z] at h9;exact h9)) O ?_)))))))))))
 refine st' (Bh (c:=false) O O) O (AL O (BN (v:=(pP b5 1)) O (AC (j:=1) O O underlying64 sizeOf3 O jY O) (BN (v:=(vN ((ts.getD t jJ).2.1))) O (AP (i:=0) (v:=(vN ((ts.getD t jJ).2.1))) O O Dr.a O) (FV O (zc (v:=(qa true)) (AE O) (Ac (args:=[(vN ((ts.getD t jJ).2.1)),(vN ps.length)]) O O call118) (λw hw=>(by have h9:=ET ((ts.getD t jJ).2.1) ps.length w;rw [xE Z] at h9;exact h9)) O (leB O) (BN (v:=(qa false)) O (Bh (c:=false) O O) (st' (v:=(qa false)) (AN O O) O (AL O (BN (v:=(pP b5 2)) O (AC (j:=2) O O underlying64 sizeOf3 O jY O) (BN (v:=(vN ((ts.getD t jJ).2.2))) O (AP (i:=0) (v:=(vN ((ts.getD t jJ).2.2))) O O Dr.a O) (FV O ?_)))))))))))
 refine zc (v:=(qa true)) (AE O) (Ac (args:=[(vN ((ts.getD t jJ).2.2)),(vN ps.length)]) O O call118) (λw hw=>(by have h9:=ET ((ts.getD t jJ).2.2) ps.length w;rw [xE Z] at h9;exact h9)) O (leB O) (BN (v:=(qa false)) O (Bh (c:=false) O O) (st' (v:=(qa false)) (AN O O) O (oNl' (zB (sL [1,2,4,5,6,7,47] O) (zA (zU O (zI (q1 (B8 (Ed 18++[(18,false),(19,false),(20,false)]) (sk (sl (sl (sl sr)))) (Ao (v:=(pP b1 0)) O (AA O underlying37 O sizeOf35 O) (Cm 1 (qz x.a.p ps.length x.a.c) KA O ?_)))))))))))
 refine Ao (v:=(pP b5 0)) O (AC (j:=0) O O underlying64 sizeOf3 O jY O) (Cm 0 (vN ((ts.getD t jJ).1)) Dr O (Ao (v:=(pP (pB x.a.p) (pO x.a.p+((ts.getD t jJ).1)*10))) O (AU (j:=(ts.getD t jJ).1) O O x.a.ok underlying35 sizeOf62 O Z) (Ao (v:=(aG (Ae (ps.getD ((ts.getD t jJ).1) (⟨0,0⟩:Pt))))) O (Af (vs:=Ae (ps.getD ((ts.getD t jJ).1) (⟨0,0⟩:Pt))) (i:=2) O O (BI.ne x.a.ok Z) A_ (BG C6 _ _ _ Z) (C6 _)) (Ao (v:=(pP b1 0)) O (AA O underlying37 O sizeOf35 O) (Cm 1 (qz x.a.p ps.length x.a.c) KA O (Ao (v:=(pP b5 1)) O (AC (j:=1) O O underlying64 sizeOf3 O jY O) (Cm 0 (vN ((ts.getD t jJ).2.1)) Dr O (Ao (v:=(pP (pB x.a.p) (pO x.a.p+((ts.getD t jJ).2.1)*10))) O (AU (j:=(ts.getD t jJ).2.1) O O x.a.ok underlying35 sizeOf62 O Z) (Ao (v:=(aG (Ae (ps.getD ((ts.getD t jJ).2.1) (⟨0,0⟩:Pt))))) O (Af (vs:=Ae (ps.getD ((ts.getD t jJ).2.1) (⟨0,0⟩:Pt))) (i:=2) O O (BI.ne x.a.ok Z) A_ (BG C6 _ _ _ Z) (C6 _)) (Ao (v:=(pP b1 0)) O (AA O underlying37 O sizeOf35 O) (Cm 1 (qz x.a.p ps.length x.a.c) KA O ?_)))))))))))
 refine Ao (v:=(pP b5 2)) O (AC (j:=2) O O underlying64 sizeOf3 O jY O) (Cm 0 (vN ((ts.getD t jJ).2.2)) Dr O (Ao (v:=(pP (pB x.a.p) (pO x.a.p+((ts.getD t jJ).2.2)*10))) O (AU (j:=(ts.getD t jJ).2.2) O O x.a.ok underlying35 sizeOf62 O Z) (Ao (v:=(aG (Ae (ps.getD ((ts.getD t jJ).2.2) (⟨0,0⟩:Pt))))) O (Af (vs:=Ae (ps.getD ((ts.getD t jJ).2.2) (⟨0,0⟩:Pt))) (i:=2) O O (BI.ne x.a.ok Z) A_ (BG C6 _ _ _ Z) (C6 _)) (zD O (Fd O sizeOf62 O (zC (sk (sl (sl (sl sr)))) (zD O (Ee O sizeOf62 O (zC (sk (sl (sl (sl sr)))) (zD O (DG O sizeOf62 O ?_)))))))))))
 exact zC (sk (sl (sl (sl sr)))) (zP (zB (sL [1,2,4,5,6,7] O) (zA (zF (DD O (Aa (i:=3) (cs:=Ae (ps.getD ((ts.getD t jJ).1) (⟨0,0⟩:Pt))) O O isAgg62 sizeOf62 O) (Aa (i:=2) (cs:=Ae (ps.getD ((ts.getD t jJ).2.1) (⟨0,0⟩:Pt))) O O isAgg62 sizeOf62 O) (Aa (i:=1) (cs:=Ae (ps.getD ((ts.getD t jJ).2.2) (⟨0,0⟩:Pt))) O O isAgg62 sizeOf62 O) (λw hw=>⟨rfl,hw.out⟩))))))
theorem OL {ps:List Pt} {zt ss:List Z3} (x:MZ ps zt ss) (t:Nat) (ht:t<(zt.map natT).length) (hn:Du ps.length zt=true) (w:World) {S:Nat->Prop} (hx:Ro S w x):Calls prog 69 #[(aG (D4 x)),(vN t)] w (AY w (Value.tuple #[(aG (Ae (BJ ps ((zt.map natT).getD t (0,0,0)).1))),(aG (Ae (BJ ps ((zt.map natT).getD t (0,0,0)).2.1))),(aG (Ae (BJ ps ((zt.map natT).getD t (0,0,0)).2.2)))])):=by
 obtain ⟨ts,rfl,hnb⟩:=LJ hn
 obtain ⟨y,hy,hro⟩:=cV x
 rw [K6] at ht ⊢
 have k:=OK y t ht (Np hnb ht) w (hro hx)
 rw [hy] at k
 exact k
end
section
set_option maxRecDepth 100000
theorem R7  (w:World) {S:Nat->Prop}  :Calls prog 165 #[] w (Ai (NX 1) S w):=by
 exact AS (args:=[]) func165 O O (leB O) (zG sN (q4 (asg' O (oNl' (q2 (cN (S:=S) (x:=1) (args:=[(Value.int .u64 (1:Int))]) call188 (λw hw=>RG 1 (by first|omega|(simp only [Int.natAbs_neg];omega)) w) O O O λg1 lg1=>asg' O (oNl' (zB (sL [0] O) (zA (zF (ret_one O (rd_tmp (v:=(CN g1)) O) (λw hw=>DC (a:=(g1:NX 1)) hw (inS hw 0 O lg1) O))))))))))))
theorem qDen_ok {x:Rat} (a:FX x) (hs:Sz x<=16777216) (w:World) {S:Nat->Prop} (ha:Ro S w a)  :Calls prog 111 #[(aG (fxL a))] w (Ai (NX x.den) S w):=by
 have s0:=Cz x
 have s1:=Cc x
 have s2:=Fl x
 have h1w:=JR
 have la:=Bs (W:=w) ha
 refine AX (args:=[(aG (fxL a))]) (L:=[AM a.z.n,AM a.m]) func111 O O (leB O) (L_ ha Al) (zG (sL [0] O) (q4 (A9 (cs:=fxL a) O λb1=>asg' O (q6 (sL [1,2] O) (B8 [(0,true),(1,true),(2,false),(3,false),(4,true)] sr (Ao (v:=(pP b1 2)) O (AA O underlying84 O sizeOf80 O) (Cm 0 (CN a.m) GG O (zD O (cN (S:=S) (x:=1) (args:=[]) call165 (λw hw=>R7 w) O O O λg1 lg1=>zC (sl sr) ?_)))))))))
 exact zD O (cN (S:=S) (x:=x.den) (args:=[(CN a.m),(CN g1)]) call164 (λw hw=>(Ai.cast (T:=λi=>NX i) (Nat.sub_add_cancel x.den_pos) (SU a.m g1 (by first|omega|(simp only [Int.natAbs_neg];omega)) (by first|omega|(simp only [Int.natAbs_neg];omega)) w (ez (inS hw 2 O la)) (inS hw 0 O lg1)))) O O O λg2 lg2=>zC (sl (sl sr)) (pS' O (zP (zB (sL [2] O) (zA (zF (ret_one O (rd_tmp (v:=(CN g2)) O) (λw hw=>DC (a:=(g2:NX x.den)) hw (inS hw 0 O lg2) O))))))))
theorem R8 {x:Rat} (a:FX x) (hs:Sz x<=16777216) (w:World) {S:Nat->Prop} (ha:Ro S w a)  :Calls prog 160 #[(aG (fxL a))] w (Ai (ZX ((x.den:Nat):Int)) S w):=by
 have la:=Bs (W:=w) ha
 refine AX (args:=[(aG (fxL a))]) (L:=[AM a.z.n,AM a.m]) func160 O O (leB O) (L_ ha Al) (zG (sL [0] O) (q4 (A9 (cs:=fxL a) O λb1=>al Ty O λb2=>q3 (sL [1,2] O) (Ah 1 Bm O (cN (S:=S) (x:=x.den) (args:=[(aG (fxL a))]) call111 (λw hw=>qDen_ok a Z w (inS hw 2 O la)) O O O λg1 lg1=>cZ (S:=S) (x:=((x.den:Nat):Int)) (args:=[(qa false),(CN g1)]) call157 (λw hw=>(Ai.cast (T:=λi=>ZX i) (show EB false x.den=_ from O) (Dz false g1 w (inS hw 0 O lg1)))) O O O λg2 lg2=>Ee O sizeOf82 O (oNl' (zB (sL [2] O) ?_)))))))
 exact zA (zF (ret_one O (Aa (i:=2) (cs:=Dc g2) O O isAgg82 sizeOf82 O) (λw hw=>DC (a:=(g2:ZX ((x.den:Nat):Int))) hw (inS hw 0 O lg2) O)))
theorem LR {n:Int} {k:Nat} (z:ZX n) (d:NX k) (hn:nw n.natAbs<=67108864) (hk:nw k<=67108864) (h0:k≠0) (w:World) {S:Nat->Prop} (hz:Ro S w z) (hd:Ro S w d)  :Calls prog 156 #[(aG (Dc z)),(CN d)] w (Ai (FX (mkRat n k)) S w):=by
 have hg:0<Nat.gcd n.natAbs k:=Nat.pos_of_ne_zero λh=>h0 (Nat.eq_zero_of_gcd_eq_zero_right h)
 have hgw:nw (Nat.gcd n.natAbs k)<=nw k:=Ct (Nat.gcd_le_right _ (Nat.pos_of_ne_zero h0))
 have hqw:nw (k/Nat.gcd n.natAbs k)<=nw k:=Ct (Nat.div_le_self _ _)
 have hq1:1<=k/Nat.gcd n.natAbs k:=Nat.div_pos (Nat.gcd_le_right _ (Nat.pos_of_ne_zero h0)) hg
 have lz:=Bs (W:=w) hz
 have ld:=Bs (W:=w) hd
 refine AX (args:=[(aG (Dc z)),(CN d)]) (L:=[AM z.n,AM d]) func156 O O (leB O) (ZE hz (dv hd Al)) (zG (sL [0,1] O) (q4 (A9 (cs:=Dc z) O λb1=>al HZ O λb2=>q3 (sL [1,2,4] O) (st' (v:=(pP b1 1)) (AA O underlying82 O sizeOf80 O) O (BZ 1 (CN z.n) GG O (AL O (cN (S:=S) (x:=(Nat.gcd n.natAbs k)) (args:=[(CN z.n),(CN d)]) call189 (λw hw=>ZN z.n d (by first|omega|(simp only [Int.natAbs_neg];omega)) (by first|omega|(simp only [Int.natAbs_neg];omega)) w (PK (inS hw 2 O lz)) (inS hw 3 O ld)) O O O λg1 lg1=>asg' O (q3 (sL [1,2,4,5] O) ?_))))))))
 refine st' (v:=(pP b1 1)) (AA O underlying82 O sizeOf80 O) O (BZ 2 (CN z.n) GG O (AL O (cD (S:=S) (u:=(n.natAbs/(Nat.gcd n.natAbs k))) (v:=(n.natAbs%(Nat.gcd n.natAbs k))) (args:=[(CN z.n),(CN g1)]) call190 (λw hw=>SV z.n g1 hg Z Z w (PK (inS hw 3 O lz)) (inS hw 0 O lg1)) O O O λg2 lg2=>AL O (st' (AH (v:=(CN g2.q)) O O) O (st' (AH (v:=(CN g2.r)) O O) O (asg' O (asg' O (q3 (sL [1,2,4,5,6] O) (AL O (AL O ?_))))))))))
 refine cD (S:=S) (u:=(k/(Nat.gcd n.natAbs k))) (v:=(k%(Nat.gcd n.natAbs k))) (args:=[(CN d),(CN g1)]) call190 (λw hw=>SV d g1 hg Z Z w (inS hw 6 O ld) (inS hw 2 O lg1)) O O O λg3 lg3=>AL O (st' (AH (v:=(CN g3.q)) O O) O (st' (AH (v:=(CN g3.r)) O O) O (asg' O (asg' O (q3 (sL [1,2,4,5,6,8] O) (st' (v:=(pP b1 0)) (AA O underlying82 O sizeOf4 O) O (BZ 6 (qa (decide (n<0))) Lj O (AL O (cZ (S:=S) (x:=((mkRat n k).num)) (args:=[(qa (decide (n<0))),(CN g2.q)]) call157 (λw hw=>(Ai.cast (T:=λi=>ZX i) (VZ h0) (Dz (decide (n<0)) g2.q w (c8 (inS hw 2 O lg2))))) O O O λg4 lg4=>AL O ?_)))))))))
 exact cN (S:=S) (x:=1) (args:=[]) call165 (λw hw=>R7 w) O O O λg5 lg5=>cN (S:=S) (x:=((mkRat n k).den-1)) (args:=[(CN g3.q),(CN g5)]) call191 (λw hw=>(Ai.cast (T:=λi=>NX i) (VY h0) (OB g3.q g5 hq1 Z w (c8 (inS hw 2 O lg3)) (inS hw 0 O lg5)))) O O O λg6 lg6=>st' (v:=(aG (Dc g4++[(CN g6)]))) (AR (zs:=[(qa false),jj,jj]) (vs:=Dc g4++[(CN g6)]) (pv:=[(0,(aG (Dc g4))),(1,(CN g6))]) (places:=[(0,2),(2,1)]) zeroValue84 underlying84 (λw=>by simp [sizeOf80,sizeOf82]) O O) O (EV 8 (off:=0) (vs:=Dc g4++[(CN g6)]) (cs':=Dc g4++[(CN g6)]) (AJ O) O sizeOf84 O (oNl' (zB (sL [1,2,4,5] O) (zA (zF (ret_one O (Aa (i:=8) (cs:=Dc g4++[(CN g6)]) O O isAgg84 sizeOf84 O) (λw hw=>DC (a:=((FX.mk g4 g6):FX (mkRat n k))) hw (Zc (inS hw 2 O lg4) (inS hw 0 O lg6)) O)))))))
theorem H9 {r0:Int} (x0:ZX r0):Instr.fill ([(0,2),(2,1)].toArray[·]?) ([(qa false),jj,jj]).toArray [(0,.agg (Dc x0).toArray)]=some (Dc x0++[jj]).toArray:=by kernel_rfl
theorem Hp (z:Int) (hz:-9223372036854775808<=z) (hz2:z<9223372036854775808) (w:World) {S:Nat->Prop}  :Calls prog 98 #[(vI z)] w (Ai (FX ((z:Int):Rat)) S w):=by
 refine AS (args:=[(vI z)]) func98 O O (leB O) (zG (sL [0] O) (q4 (al HZ O λb1=>oNl' (q2 (AL O (cZ (S:=S) (x:=(((z:Int):Rat).num)) (args:=[(vI z)]) call150 (λw hw=>(Ai.cast (T:=λi=>ZX i) (show z=((z:Int):Rat).num from O) (bK z Z Z w))) O O O λg1 lg1=>st' (v:=(aG (Dc g1++[jj]))) (AR (zs:=[(qa false),jj,jj]) (vs:=Dc g1++[jj]) (pv:=[(0,(aG (Dc g1)))]) (places:=[(0,2),(2,1)]) zeroValue84 underlying84 (λw=>by simp [sizeOf80,sizeOf82]) O (H9 g1)) O (DG O sizeOf84 O (oNl' (zB (sL [2] O) ?_)))))))))
 exact zA (zF (ret_one O (Aa (i:=1) (cs:=Dc g1++[jj]) O O isAgg84 sizeOf84 O) (λw hw=>DC (a:=((FX.mk g1 NX.zero):FX ((z:Int):Rat))) hw (Zc (inS hw 0 O lg1) LV) O)))
theorem GA {x:Rat} (a:FX x) (w:World) {S:Nat->Prop} (ha:Ro S w a)  :Calls prog 104 #[(aG (fxL a))] w (AY w (vI x.num.sign)):=by
 have la:=Bs (W:=w) ha
 refine AX (args:=[(aG (fxL a))]) (L:=[AM a.z.n,AM a.m]) func104 O O (leB O) (L_ ha Al) (zG (sL [0] O) (q4 (A9 (cs:=fxL a) O λb1=>asg' O (q3 (sL [1,2] O) (st' (v:=(pP b1 0)) (AA O underlying84 O sizeOf82 O) O (Br 0 (Dc a.z) PU O (CC call162 (λw hw=>W8 a.z w (XD (inS hw 1 O la))) O (asg' O (oNl' (zB (sL [2] O) ?_))))))))))
 exact zA (zF (ret_one O (rd_tmp (v:=(vI x.num.sign)) O) (λw hw=>⟨rfl,hw.out⟩)))
theorem Yk {x:Rat} (a:FX x) (w:World) {S:Nat->Prop} (ha:Ro S w a)  :Calls prog 163 #[(aG (fxL a))] w (Ai (FX (-x)) S w):=by
 have la:=Bs (W:=w) ha
 refine AX (args:=[(aG (fxL a))]) (L:=[AM a.z.n,AM a.m]) func163 O O (leB O) (L_ ha Al) (zG (sL [0] O) (q4 (A9 (cs:=fxL a) O λb1=>al HZ O λb2=>q6 (sL [1,2] O) (B8 [(0,true),(1,true),(3,true),(4,true),(2,false),(5,true),(6,false)] (sl sr) (Ao (v:=(pP b1 0)) O (AA O underlying84 O sizeOf82 O) (Dd 0 (Dc a.z) PU O (Ao (v:=(pP b1 2)) O (AA O underlying84 O sizeOf80 O) (Cm 0 (CN a.m) GG O (zD O ?_)))))))))
 exact cZ (S:=S) (x:=((-x).num)) (args:=[(aG (Dc a.z))]) call195 (λw hw=>(Ai.cast (T:=λi=>ZX i) (Rat.neg_num x).symm (ZP a.z w (XD (inS hw 2 O la))))) O O O λg1 lg1=>zC (sl (sl sr)) (Ao (v:=(aG (Dc g1++[(CN a.m)]))) O (AR (zs:=[(qa false),jj,jj]) (vs:=Dc g1++[(CN a.m)]) (pv:=[(0,(aG (Dc g1))),(1,(CN a.m))]) (places:=[(0,2),(2,1)]) zeroValue84 underlying84 (λw=>by simp [sizeOf80,sizeOf82]) O O) (zD O (DG O sizeOf84 O (zC (sl (sl sr)) (zP (zB (sL [2] O) (zA (zF (ret_one O (Aa (i:=1) (cs:=Dc g1++[(CN a.m)]) O O isAgg84 sizeOf84 O) (λw hw=>DC (a:=((FX.mk g1 a.m):FX (-x))) hw (Zc (inS hw 0 O lg1) (ez (inS hw 3 O la))) O))))))))))
theorem Is {x y:Rat} (a:FX x) (b:FX y) (hs:Sz x+Sz y<=16777216) (w:World) {S:Nat->Prop} (ha:Ro S w a) (hb:Ro S w b)  :Calls prog 102 #[(aG (fxL a)),(aG (fxL b))] w (Ai (FX (x+y)) S w):=by
 have s0:=Cz x
 have s1:=Cc x
 have s2:=Fl x
 have s3:=Cz y
 have s4:=Cc y
 have s5:=Fl y
 have s6:=CQ x y
 have s7:=CQ y x
 have s8:=GW x y
 have s9:=HR x y
 have s10:=D5 (x.num*((y.den:Nat):Int)) (y.num*((x.den:Nat):Int))
 have h0x:=x.den_nz
 have h0y:=y.den_nz
 have h0xy:=Nat.mul_ne_zero h0x h0y
 have la:=Bs (W:=w) ha
 have lb:=Bs (W:=w) hb
 refine AX (args:=[(aG (fxL a)),(aG (fxL b))]) (L:=[AM a.z.n,AM a.m,AM b.z.n,AM b.m]) func102 O O (leB O) (L_ ha (L_ hb Al)) (zG (sL [0,1] O) (q4 (A9 (cs:=fxL a) O λb1=>A9 (cs:=fxL b) O λb2=>al HZ O λb3=>q6 (sL [2,3,4] O) (B8 [(0,true),(1,true),(2,true),(5,true),(6,true),(7,true),(11,true),(13,true),(3,false),(4,false),(8,false),(9,false),(10,false),(12,false),(14,false),(15,false),(16,false),(17,false)] (sl sr) (Ao (v:=(pP b1 0)) O (AA O underlying84 O sizeOf82 O) (Dd 1 (Dc a.z) PU O (Bv 0 Bm O (Ao (v:=(pP b2 0)) O (AA O underlying84 O sizeOf82 O) ?_))))))))
 refine Dd 0 (Dc b.z) PU O (Bv 1 Bm O (Bv 1 Bm O (Bv 0 Bm O (zD O (cZ (S:=S) (x:=((y.den:Nat):Int)) (args:=[(aG (fxL b))]) call160 (λw hw=>R8 b Z w (inS hw 5 O lb)) O O O λg1 lg1=>zC (sl (sl sr)) (zD O (cZ (S:=S) (x:=(x.num*((y.den:Nat):Int))) (args:=[(aG (Dc a.z)),(aG (Dc g1))]) call159 (λw hw=>OD a.z g1 Z (by show nw y.den<=_;omega) w (XD (inS hw 4 O la)) (inS hw 0 O lg1)) O O O λg2 lg2=>zC (sl (sl (sl sr))) (zD O (cZ (S:=S) (x:=((x.den:Nat):Int)) (args:=[(aG (fxL a))]) call160 (λw hw=>R8 a Z w (inS hw 5 O la)) O O O λg3 lg3=>?_)))))))))
 refine zC (sl (sl (sl (sl sr)))) (zD O (cZ (S:=S) (x:=(y.num*((x.den:Nat):Int))) (args:=[(aG (Dc b.z)),(aG (Dc g3))]) call159 (λw hw=>OD b.z g3 Z (by show nw x.den<=_;omega) w (XD (inS hw 8 O lb)) (inS hw 0 O lg3)) O O O λg4 lg4=>zC (sl (sl (sl (sl (sl sr))))) (zD O (cZ (S:=S) (x:=((x.num*((y.den:Nat):Int))+(y.num*((x.den:Nat):Int)))) (args:=[(aG (Dc g2)),(aG (Dc g4))]) call158 (λw hw=>ZO g2 g4 Z Z w (inS hw 2 O lg2) (inS hw 0 O lg4)) O O O λg5 lg5=>zC (sl (sl (sl (sl (sl (sl sr)))))) (zD O (cN (S:=S) (x:=x.den) (args:=[(aG (fxL a))]) call111 (λw hw=>qDen_ok a Z w (inS hw 8 O la)) O O O λg6 lg6=>zC (sl (sl (sl (sl (sl (sl (sl sr))))))) (zD O (cN (S:=S) (x:=y.den) (args:=[(aG (fxL b))]) call111 (λw hw=>qDen_ok b Z w (inS hw 11 O lb)) O O O λg7 lg7=>?_))))))))
 refine zC (sl (sl (sl (sl (sl (sl (sl (sl sr)))))))) (zD O (cN (S:=S) (x:=(x.den*y.den)) (args:=[(CN g6),(CN g7)]) call161 (λw hw=>OA g6 g7 (by first|omega|(simp only [Int.natAbs_neg];omega)) (by first|omega|(simp only [Int.natAbs_neg];omega)) w (inS hw 1 O lg6) (inS hw 0 O lg7)) O O O λg8 lg8=>zC (sl (sl (sl (sl (sl (sl (sl (sl (sl sr))))))))) (zD O (cF (S:=S) (x:=(x+y)) (args:=[(aG (Dc g5)),(CN g8)]) call156 (λw hw=>(Ai.cast (T:=λi=>FX i) (Hg x y) (LR g5 g8 Z Z h0xy w (inS hw 3 O lg5) (inS hw 0 O lg8)))) O O O λg9 lg9=>zC (sl (sl (sl (sl (sl (sl (sl (sl (sl (sl (sl sr))))))))))) (zD O (EV 10 (off:=0) (vs:=fxL g9) (cs':=fxL g9) (AJ O) O sizeOf84 O (zC (sl (sl (sl (sl (sl (sl (sl (sl (sl (sl (sl sr))))))))))) (zP (zB (sL [4] O) ?_)))))))))
 exact zA (zF (ret_one O (Aa (i:=10) (cs:=fxL g9) O O isAgg84 sizeOf84 O) (λw hw=>DC (a:=(g9:FX (x+y))) hw (inS hw 0 O lg9) O)))
theorem KT {x y:Rat} (a:FX x) (b:FX y) (hs:Sz x+Sz y<=16777216) (w:World) {S:Nat->Prop} (ha:Ro S w a) (hb:Ro S w b)  :Calls prog 105 #[(aG (fxL a)),(aG (fxL b))] w (Ai (FX (x-y)) S w):=by
 have la:=Bs (W:=w) ha
 have lb:=Bs (W:=w) hb
 refine AX (args:=[(aG (fxL a)),(aG (fxL b))]) (L:=[AM a.z.n,AM a.m,AM b.z.n,AM b.m]) func105 O O (leB O) (L_ ha (L_ hb Al)) (zG (sL [0,1] O) (q4 (A9 (cs:=fxL a) O λb1=>A9 (cs:=fxL b) O λb2=>al HZ O λb3=>q6 (sL [2,3,4] O) (B8 [(0,true),(1,true),(2,false),(3,false),(4,false)] (sl sr) (Bv 1 Bm O (Bv 0 Bm O (zD O (cF (S:=S) (x:=(-y)) (args:=[(aG (fxL b))]) call163 (λw hw=>Yk b w (inS hw 5 O lb)) O O O λg1 lg1=>?_))))))))
 refine zC (sl (sl (sl sr))) (zD O ?_)
 have hz1:=DY x (-y)
 exact cF (S:=S) (x:=(x-y)) (args:=[(aG (fxL a)),(aG (fxL g1))]) call102 (λw hw=>(Ai.cast (T:=λi=>FX i) (Rat.sub_eq_add_neg x y).symm (Is a g1 (by (try simp only [BE]);omega) w (inS hw 5 O la) (inS hw 0 O lg1)))) O O O λg2 lg2=>zC (sl (sl (sl (sl (sl sr))))) (zD O (EV 4 (off:=0) (vs:=fxL g2) (cs':=fxL g2) (AJ O) O sizeOf84 O (zC (sl (sl (sl (sl (sl sr))))) (zP (zB (sL [4] O) (zA (zF (ret_one O (Aa (i:=4) (cs:=fxL g2) O O isAgg84 sizeOf84 O) (λw hw=>DC (a:=(g2:FX (x-y))) hw (inS hw 0 O lg2) O)))))))))
theorem Gj {x y:Rat} (a:FX x) (b:FX y) (hs:Sz x+Sz y<=16777216) (w:World) {S:Nat->Prop} (ha:Ro S w a) (hb:Ro S w b)  :Calls prog 155 #[(aG (fxL a)),(aG (fxL b))] w (Ai (FX (x*y)) S w):=by
 have s0:=Cz x
 have s1:=Cc x
 have s2:=Fl x
 have s3:=Cz y
 have s4:=Cc y
 have s5:=Fl y
 have s6:=CQ x y
 have s7:=CQ y x
 have s8:=GW x y
 have s9:=HR x y
 have s10:=D5 (x.num*((y.den:Nat):Int)) (y.num*((x.den:Nat):Int))
 have h0x:=x.den_nz
 have h0y:=y.den_nz
 have h0xy:=Nat.mul_ne_zero h0x h0y
 have la:=Bs (W:=w) ha
 have lb:=Bs (W:=w) hb
 refine AX (args:=[(aG (fxL a)),(aG (fxL b))]) (L:=[AM a.z.n,AM a.m,AM b.z.n,AM b.m]) func155 O O (leB O) (L_ ha (L_ hb Al)) (zG (sL [0,1] O) (q4 (A9 (cs:=fxL a) O λb1=>A9 (cs:=fxL b) O λb2=>al HZ O λb3=>q6 (sL [2,3,4] O) (B8 (Ed 4++[(5,true),(7,true),(4,false),(6,false),(8,false),(9,false),(10,false),(11,false)]) (sl sr) (Ao (v:=(pP b1 0)) O (AA O underlying84 O sizeOf82 O) (Dd 1 (Dc a.z) PU O (Ao (v:=(pP b2 0)) O (AA O underlying84 O sizeOf82 O) (Dd 0 (Dc b.z) PU O ?_))))))))
 refine Bv 1 Bm O (Bv 0 Bm O (zD O (cZ (S:=S) (x:=(x.num*y.num)) (args:=[(aG (Dc a.z)),(aG (Dc b.z))]) call159 (λw hw=>OD a.z b.z Z Z w (XD (inS hw 3 O la)) (XD (inS hw 5 O lb))) O O O λg1 lg1=>zC (sl (sl sr)) (zD O (cN (S:=S) (x:=x.den) (args:=[(aG (fxL a))]) call111 (λw hw=>qDen_ok a Z w (inS hw 4 O la)) O O O λg2 lg2=>zC (sl (sl (sl sr))) (zD O (cN (S:=S) (x:=y.den) (args:=[(aG (fxL b))]) call111 (λw hw=>qDen_ok b Z w (inS hw 7 O lb)) O O O λg3 lg3=>zC (sl (sl (sl (sl sr)))) (zD O ?_))))))))
 exact cN (S:=S) (x:=(x.den*y.den)) (args:=[(CN g2),(CN g3)]) call161 (λw hw=>OA g2 g3 (by first|omega|(simp only [Int.natAbs_neg];omega)) (by first|omega|(simp only [Int.natAbs_neg];omega)) w (inS hw 1 O lg2) (inS hw 0 O lg3)) O O O λg4 lg4=>zC (sl (sl (sl (sl (sl sr))))) (zD O (cF (S:=S) (x:=(x*y)) (args:=[(aG (Dc g1)),(CN g4)]) call156 (λw hw=>(Ai.cast (T:=λi=>FX i) (JN x y) (LR g1 g4 Z Z h0xy w (inS hw 3 O lg1) (inS hw 0 O lg4)))) O O O λg5 lg5=>zC (sl (sl (sl (sl (sl (sl (sl sr))))))) (zD O (EV 6 (off:=0) (vs:=fxL g5) (cs':=fxL g5) (AJ O) O sizeOf84 O (zC (sl (sl (sl (sl (sl (sl (sl sr))))))) (zP (zB (sL [4] O) (zA (zF (ret_one O (Aa (i:=6) (cs:=fxL g5) O O isAgg84 sizeOf84 O) (λw hw=>DC (a:=(g5:FX (x*y))) hw (inS hw 0 O lg5) O)))))))))))
theorem Hf (a b:Rat):Sz (a/b)<=Sz a+Sz b:=by
 by_cases h:b=0
 ·subst h;rw [Rat.div_def,Rat.inv_zero,Rat.mul_zero];have h1:=NL a;exact xK (show Sz (0:Rat)<=1 by decide +kernel) Z
 ·exact HA h
theorem Kx  :Instr.fill ([(0,2),(2,1)].toArray[·]?) ([(qa false),jj,jj]).toArray []=some ([(qa false),jj,jj]).toArray:=by kernel_rfl
theorem It {x y:Rat} (a:FX x) (b:FX y) (hs:Sz x+Sz y<=16777216) (w:World) {S:Nat->Prop} (ha:Ro S w a) (hb:Ro S w b)  :Calls prog 101 #[(aG (fxL a)),(aG (fxL b))] w (Ai (FX (x/y)) S w):=by
 have s0:=Cz x
 have s1:=Cc x
 have s2:=Fl x
 have s3:=Cz y
 have s4:=Cc y
 have s5:=Fl y
 have s6:=CQ x y
 have s7:=CQ y x
 have s8:=GW x y
 have s9:=HR x y
 have s10:=D5 (x.num*((y.den:Nat):Int)) (y.num*((x.den:Nat):Int))
 have h0x:=x.den_nz
 have h0y:=y.den_nz
 have h0xy:=Nat.mul_ne_zero h0x h0y
 have la:=Bs (W:=w) ha
 have lb:=Bs (W:=w) hb
 refine AX (args:=[(aG (fxL a)),(aG (fxL b))]) (L:=[AM a.z.n,AM a.m,AM b.z.n,AM b.m]) func101 O O (leB O) (L_ ha (L_ hb Al)) (zG (sL [0,1] O) (q4 (A9 (cs:=fxL a) O λb1=>A9 (cs:=fxL b) O λb2=>al HZ O λb3=>q6 (sL [2,3,4] O) (q4 (Ah 1 Bm O (CC call104 (λw hw=>GA b w (inS hw 5 O lb)) O (st' (Az (c:=(decide (y.num.sign=(0:Int)))) O O O) O (oNl' ?_))))))))
 refine zB (sL [2,3,4,7] O) (zA ?_)
 refine zK O (λhc0=>?_) (λhc0=>?_)
 ·replace hc0:=xR hc0
  exact q4 (st' (v:=(aG ([(qa false),jj,jj]))) (AR (zs:=[(qa false),jj,jj]) (vs:=[(qa false),jj,jj]) (pv:=[]) (places:=[(0,2),(2,1)]) zeroValue84 underlying84 (λw=>by simp [sizeOf80,sizeOf82]) O (Kx )) O (Am O sizeOf84 O (oNl' (zB (sL [2,3,4] O) (zA (zF (zH (ret_one O (Aa (i:=0) (cs:=[(qa false),jj,jj]) O O isAgg84 sizeOf84 O) (λw hw=>(by rw [<-U3 (a:=x) hc0];exact DC (a:=FX.zero) hw (Zc (bP LV) LV) O))))))))))
 ·replace hc0:=xQ hc0
  have hy:y≠0:=λe=>hc0 (by rw [e];rfl)
  have hi:=Pz hy
  have hyn:y.num.natAbs≠0:=λe=>hy (Rat.num_eq_zero.1 Z)
  refine zI (q1 (B8 (Ed 5++[(7,true),(8,true),(9,true),(5,false),(6,false),(10,false),(11,false),(12,false)]) (sl sr) (Bv 1 Bm O (Ao (v:=(pP b2 0)) O (AA O underlying84 O sizeOf82 O) (Ao (v:=(pP b2 0)) O (AA O underlying82 O sizeOf4 O) (Cm 0 (qa (decide (y.num<0))) Lj O (Bv 0 Bm O (Ao (v:=(pP b2 0)) O (AA O underlying84 O sizeOf82 O) (Ao (v:=(pP b2 1)) O (AA O underlying82 O sizeOf80 O) (Cm 0 (CN b.z.n) GG O (zD O ?_)))))))))))
  refine cN (S:=S) (x:=y.den) (args:=[(aG (fxL b))]) call111 (λw hw=>qDen_ok b Z w (inS hw 5 O lb)) O O O λg1 lg1=>zC (sl (sl sr)) (zD O (cZ (S:=S) (x:=(EB (decide (y.num<0)) y.den)) (args:=[(qa (decide (y.num<0))),(CN g1)]) call157 (λw hw=>Dz (decide (y.num<0)) g1 w (inS hw 0 O lg1)) O O O λg2 lg2=>zC (sl (sl (sl sr))) (zD O (cF (S:=S) (x:=(y⁻¹)) (args:=[(aG (Dc g2)),(CN b.z.n)]) call156 (λw hw=>(Ai.cast (T:=λi=>FX i) (eS hy) (LR g2 b.z.n (by rw [Aq];omega) Z hyn w (inS hw 0 O lg2) (PK (XD (inS hw 7 O lb)))))) O O O λg3 lg3=>zC (sl (sl (sl (sl (sl sr))))) (zD O ?_)))))
  have hz1:=CU x (y⁻¹)
  exact cF (S:=S) (x:=(x/y)) (args:=[(aG (fxL a)),(aG (fxL g3))]) call155 (λw hw=>(Ai.cast (T:=λi=>FX i) Xl (Gj a g3 (by (try simp only [BE]);omega) w (inS hw 7 O la) (inS hw 0 O lg3)))) O O O λg4 lg4=>zC (sl (sl (sl (sl (sl (sl (sl sr))))))) (zD O (EV 6 (off:=0) (vs:=fxL g4) (cs':=fxL g4) (AJ O) O sizeOf84 O (zC (sl (sl (sl (sl (sl (sl (sl sr))))))) (zP (zB (sL [3,4] O) (zA (zF (ret_one O (Aa (i:=6) (cs:=fxL g4) O O isAgg84 sizeOf84 O) (λw hw=>DC (a:=(g4:FX (x/y))) hw (inS hw 0 O lg4) O)))))))))
theorem Fr {x y:Rat} (a:FX x) (b:FX y) (hs:Sz x+Sz y<=16777216) (w:World) {S:Nat->Prop} (ha:Ro S w a) (hb:Ro S w b)  :Calls prog 56 #[(aG (fxL a)),(aG (fxL b))] w (AY w (vI (BK x y))):=by
 have la:=Bs (W:=w) ha
 have lb:=Bs (W:=w) hb
 refine AX (args:=[(aG (fxL a)),(aG (fxL b))]) (L:=[AM a.z.n,AM a.m,AM b.z.n,AM b.m]) func56 O O (leB O) (L_ ha (L_ hb Al)) (zG (sL [0,1] O) (q4 (A9 (cs:=fxL a) O λb1=>A9 (cs:=fxL b) O λb2=>asg' O (q3 (sL [2,3,4] O) (Ah 1 Bm O (Ah 0 Bm O ?_))))))
 have hz1:=EK x y
 exact cF (S:=S) (x:=(x-y)) (args:=[(aG (fxL a)),(aG (fxL b))]) call105 (λw hw=>KT a b (by (try simp only [BE]);omega) w (inS hw 2 O la) (inS hw 4 O lb)) O O O λg1 lg1=>CC call104 (λw hw=>GA g1 w (inS hw 0 O lg1)) O (asg' O (oNl' (zB (sL [4] O) (zA (zF (ret_one O (rd_tmp (v:=(vI ((x-y).num.sign))) O) (λw hw=>⟨by rw [eI],hw.out⟩)))))))
theorem PC {x y:Rat} (a:FX x) (b:FX y) (hs:Sz x+Sz y<=16777216) (w:World) {S:Nat->Prop} (ha:Ro S w a) (hb:Ro S w b)  :Calls prog 97 #[(aG (fxL a)),(aG (fxL b))] w (AY w (qa (decide (x=y)))):=by
 have la:=Bs (W:=w) ha
 have lb:=Bs (W:=w) hb
 refine AX (args:=[(aG (fxL a)),(aG (fxL b))]) (L:=[AM a.z.n,AM a.m,AM b.z.n,AM b.m]) func97 O O (leB O) (L_ ha (L_ hb Al)) (zG (sL [0,1] O) (q4 (A9 (cs:=fxL a) O λb1=>A9 (cs:=fxL b) O λb2=>asg' O (q3 (sL [2,3,4] O) (Ah 1 Bm O (Ah 0 Bm O (CC call56 (λw hw=>Fr a b Z w (inS hw 2 O la) (inS hw 4 O lb)) O (st' (Az (c:=(decide ((BK x y)=(0:Int)))) O O O) O (asg' O ?_)))))))))
 exact oNl' (zB (sL [4] O) (zA (zF (ret_one O (rd_tmp (v:=(qa (decide ((BK x y)=(0:Int))))) O) (λw hw=>⟨by simp only [IU],hw.out⟩)))))
theorem ap (n d:Int) (h1:-9223372036854775808<=n) (h2:n<9223372036854775808) (h3:-9223372036854775808<=d) (h4:d<9223372036854775808) (w:World) {S:Nat->Prop}  :Calls prog 96 #[(vI n),(vI d)] w (Ai (FX (((n:Int):Rat)/((d:Int):Rat))) S w):=by
 have s1:=H3 h1 h2
 have s2:=H3 h3 h4
 refine AS (args:=[(vI n),(vI d)]) func96 O O (leB O) (zG (sL [0,1] O) (q4 (al HZ O λb1=>oNl' (q2 (AL O (cF (S:=S) (x:=((n:Int):Rat)) (args:=[(vI n)]) call98 (λw hw=>Hp n Z Z w) O O O λg1 lg1=>AL O (cF (S:=S) (x:=((d:Int):Rat)) (args:=[(vI d)]) call98 (λw hw=>Hp d Z Z w) O O O λg2 lg2=>?_)))))))
 have hz1:=Hf ((n:Int):Rat) ((d:Int):Rat)
 exact cF (S:=S) (x:=(((n:Int):Rat)/((d:Int):Rat))) (args:=[(aG (fxL g1)),(aG (fxL g2))]) call101 (λw hw=>It g1 g2 (by (try simp only [BE]);omega) w (inS hw 2 O lg1) (inS hw 0 O lg2)) O O O λg3 lg3=>EV 6 (off:=0) (vs:=fxL g3) (cs':=fxL g3) (AJ O) O sizeOf84 O (oNl' (zB (sL [4] O) (zA (zF (ret_one O (Aa (i:=6) (cs:=fxL g3) O O isAgg84 sizeOf84 O) (λw hw=>DC (a:=(g3:FX (((n:Int):Rat)/((d:Int):Rat)))) hw (inS hw 0 O lg3) O))))))
theorem V7 {x:Rat} (a:FX x) (hs:Sz x<=16777216) (w:World) {S:Nat->Prop} (ha:Ro S w a)  :Calls prog 59 #[(aG (fxL a))] w (AY w (Value.string (txB (XG x)))):=by
 have s0:=Cz x
 have s1:=Cc x
 have s2:=Fl x
 have hl1:=SQ x.num
 have hl2:=JD x.den
 have la:=Bs (W:=w) ha
 refine AX (args:=[(aG (fxL a))]) (L:=[AM a.z.n,AM a.m]) func59 O O (leB O) (L_ ha Al) (zG (sL [0] O) (q4 (A9 (cs:=fxL a) O λb1=>asg' O (q6 (sL [1,2] O) (q4 (st' (v:=(pP b1 2)) (AA O underlying84 O sizeOf80 O) O (BZ 0 (CN a.m) GG O (st' (v:=(vN ((dg (x.den-1)).length))) (AD O underlying80) O (st' (Az (c:=(decide (((dg (x.den-1)).length)=0))) O O (OI (a:=(dg (x.den-1)).length) (b:=0))) O (oNl' ?_))))))))))
 refine zB (sL [1,2,6] O) (zA ?_)
 refine zK O (λhc0=>?_) (λhc0=>?_)
 ·replace hc0:=xR hc0
  have he:XG x=txI x.num:=by unfold XG;rw [if_pos (O4 hc0)]
  exact q4 (st' (v:=(pP b1 0)) (AA O underlying84 O sizeOf82 O) O (Br 0 (Dc a.z) PU O (CC call109 (λw hw=>Pn a.z Z w (XD (inS hw 1 O la))) O (asg' O (oNl' (zB (sL [1,2] O) (zA (zF (zH (ret_one O (rd_tmp (v:=(Value.string (txB (txI x.num)))) O) (λw hw=>⟨by rw [he],hw.out⟩)))))))))))
 ·replace hc0:=xQ hc0
  have he:XG x=txI x.num++[47]++Lib.decDigits x.den:=by unfold XG;rw [if_neg (Ic hc0),List.append_assoc];rfl
  refine zI (q1 (B8 [(0,true),(1,true),(4,true),(2,false),(3,true),(5,false),(6,false),(7,true),(8,true)] sr (Ao (v:=(pP b1 0)) O (AA O underlying84 O sizeOf82 O) (Dd 0 (Dc a.z) PU O (Bv 0 Bm O (zD O (CC call109 (λw hw=>Pn a.z Z w (XD (inS hw 1 O la))) O (zC sr (Ao (v:=(Value.string (txB (txI x.num++[47])))) O (Bt (r:=(txB (txI x.num++[47]))) O O (by rw [DF];show _+1<=_;omega) (Dm _ [47])) (zD O (cN (S:=S) (x:=x.den) (args:=[(aG (fxL a))]) call111 (λw hw=>qDen_ok a Z w (inS hw 1 O la)) O O O λg1 lg1=>?_)))))))))))
  exact zC (sl sr) (zD O (CC call110 (λw hw=>L6 g1 (by first|omega|(simp only [Int.natAbs_neg];omega)) w (inS hw 0 O lg1)) O (zC (sl sr) (Ao (v:=(Value.string (txB (txI x.num++[47]++Lib.decDigits x.den)))) O (Bt (r:=(txB (txI x.num++[47]++Lib.decDigits x.den))) O O (by rw [DF,DF,xJ];show _+1+_<=_;omega) (Dm _ _)) (pS' O (zP (zB (sL [1,2] O) (zA (zF (ret_one O (rd_tmp (v:=(Value.string (txB (txI x.num++[47]++Lib.decDigits x.den)))) O) (λw hw=>⟨by rw [he],hw.out⟩)))))))))))
end
section
section
variable {P:Program} {ops:Array Oper} {rest:List Oper} {Q:Exit->Act->World->Prop} {n:Nat} {F:List (Nat×Value)} {w0:Av} {L:List As} {d:Option Tmp} {op:Op} {t:TypeId} {p:String} {af:Array Edge} {g:Nat×Bool}
theorem yW (hw:Wt ops n F ⟨d,op,t,p,af,some g⟩) (next:AO P ops (⟨d,op,t,p,af,none⟩::rest) Q n F w0 L):AO P ops (⟨d,op,t,p,af,some g⟩::rest) Q n F w0 L:=λa w ha hW=>by
  have h:=next a w ha hW
  unfold wpList at h ⊢
  rw [if_pos (hw a ha)]
  rw [if_pos (AJ rfl a ha)] at h
  exact h
end
end
end Go.Proofs.YtcpkbjjmcleplaaGreatDoor
