import Derived.Test.YtcpkbjjmcleplaaGreatDoorPart35
namespace Go.Proofs.YtcpkbjjmcleplaaGreatDoor
open Go Go.RowKit Go.Proofs.Tryz
open Go.Value renaming slice→qz,bool→qa
set_option linter.unusedVariables false
set_option linter.unusedSimpArgs false
section
set_option maxRecDepth 100000
theorem PQ {ps:List Pt} {ts:List T3} {ss:List Z3} (x:MN ps ts ss) (t:Nat) (ht:t<ts.length) (hk:PP ps.length (ts.getD t (0,0,0))=true) (w:World) {S:Nat->Prop} (hx:Ro S w x):Calls prog 69 #[(aG (cg x)),(vN t)] w (Ac w (Value.tuple #[(aG (Ah (BU ps (ts.getD t (0,0,0)).1))),(aG (Ah (BU ps (ts.getD t (0,0,0)).2.1))),(aG (Ah (BU ps (ts.getD t (0,0,0)).2.2)))])):=by
 obtain ⟨k1,k2,k3⟩:=ME hk
 have lx:=Bx (W:=w) hx
 refine AZ (args:=[(aG (cg x)),(vN t)]) (L:=[AI x.a.p (rowsL Ah ps),AI x.b.p (rowsL BC ts),AI x.c.p (rowsL Bn ss)]) func69 O O (leB O) (GT hx Ao) (zI (sL [0,1] O) (q4 (BH (cs:=cg x) O λb1=>al Fg O λb2=>al Fg O λb3=>al Fg O λb4=>q6 (sL [1,2,4,5,6] O) (q4 (AK O (st' (Aa (c:=false) O O jX) O (AK O ?_)))))))
 refine FR O (BV (v:=(pP b1 1)) O (AA O underlying37 O sizeOf23 O) (BV (v:=(qz x.b.p ts.length x.b.c)) O (AR (i:=3) (v:=(qz x.b.p ts.length x.b.c)) O O Ez.a O) (BV (v:=(vN ts.length)) O (AD O underlying23) (BV (v:=(qa false)) O (Cy (c:=false) O O (by simp;omega)) (st' (v:=(qa false)) (AN O O) O (oNl' (zB (sL [1,2,4,5,6,17] O) (zA (zU O (zG (q1 ?_)))))))))))
 refine B9 (EV 8++[(8,false),(9,false),(10,true)]) sr (Am (v:=(pP b1 1)) O (AA O underlying37 O sizeOf23 O) (CL 3 (qz x.b.p ts.length x.b.c) Ez O (Bi O (Am (v:=(pP (pB x.b.p) (pO x.b.p+t*3))) O (AQ (j:=t) O O x.b.ok underlying23 sizeOf64 O Z) (Am (v:=(aG (BC (ts.getD t jJ)))) O (Ak (vs:=BC (ts.getD t jJ)) (i:=5) O O (BG.ne x.b.ok Z) Qa (BE Bv _ _ _ Z) (Bv _)) (Am (v:=(pP b1 0)) O (AA O underlying37 O sizeOf35 O) (CL 3 (qz x.a.p ps.length x.a.c) Kl O (Am (v:=(vN ps.length)) O (AD O underlying35) (zD O (al ax O λb5=>zC (sl sr) ?_))))))))))
 refine zD O (An O sizeOf64 O (zC (sl sr) (pS' O (zP (zB (sL [1,2,4,5,6,7,8] O) (q1 (q4 (st' (v:=(pP b5 0)) (AB (j:=0) O O underlying64 sizeOf3 O jY O) O (BL 0 (vN ((ts.getD t jJ).1)) Dc O (AK O (CQ (args:=[(vN ((ts.getD t jJ).1)),(vN ps.length)]) (v:=(qa true)) call118 (λw hw=>(by have h9:=Ev ((ts.getD t jJ).1) ps.length w;rw [xE Z] at h9;exact h9)) O ?_)))))))))))
 refine st' (Bs (c:=false) O O) O (AK O (BV (v:=(pP b5 1)) O (AB (j:=1) O O underlying64 sizeOf3 O jY O) (BV (v:=(vN ((ts.getD t jJ).2.1))) O (AR (i:=0) (v:=(vN ((ts.getD t jJ).2.1))) O O Dc.a O) (FR O (zd (v:=(qa true)) (AE O) (Ag (args:=[(vN ((ts.getD t jJ).2.1)),(vN ps.length)]) O O call118) (λw hw=>(by have h9:=Ev ((ts.getD t jJ).2.1) ps.length w;rw [xE Z] at h9;exact h9)) O (leB O) (BV (v:=(qa false)) O (Bs (c:=false) O O) (st' (v:=(qa false)) (AN O O) O (AK O (BV (v:=(pP b5 2)) O (AB (j:=2) O O underlying64 sizeOf3 O jY O) (BV (v:=(vN ((ts.getD t jJ).2.2))) O (AR (i:=0) (v:=(vN ((ts.getD t jJ).2.2))) O O Dc.a O) (FR O ?_)))))))))))
 refine zd (v:=(qa true)) (AE O) (Ag (args:=[(vN ((ts.getD t jJ).2.2)),(vN ps.length)]) O O call118) (λw hw=>(by have h9:=Ev ((ts.getD t jJ).2.2) ps.length w;rw [xE Z] at h9;exact h9)) O (leB O) (BV (v:=(qa false)) O (Bs (c:=false) O O) (st' (v:=(qa false)) (AN O O) O (oNl' (zB (sL [1,2,4,5,6,7,47] O) (zA (zU O (zG (q1 (B9 (EV 18++[(18,false),(19,false),(20,false)]) (sk (sl (sl (sl sr)))) (Am (v:=(pP b1 0)) O (AA O underlying37 O sizeOf35 O) (CL 1 (qz x.a.p ps.length x.a.c) Kl O ?_)))))))))))
 refine Am (v:=(pP b5 0)) O (AB (j:=0) O O underlying64 sizeOf3 O jY O) (CL 0 (vN ((ts.getD t jJ).1)) Dc O (Am (v:=(pP (pB x.a.p) (pO x.a.p+((ts.getD t jJ).1)*10))) O (AQ (j:=(ts.getD t jJ).1) O O x.a.ok underlying35 sizeOf62 O Z) (Am (v:=(aG (Ah (ps.getD ((ts.getD t jJ).1) (⟨0,0⟩:Pt))))) O (Ak (vs:=Ah (ps.getD ((ts.getD t jJ).1) (⟨0,0⟩:Pt))) (i:=2) O O (BG.ne x.a.ok Z) BJ (BE DN _ _ _ Z) (DN _)) (Am (v:=(pP b1 0)) O (AA O underlying37 O sizeOf35 O) (CL 1 (qz x.a.p ps.length x.a.c) Kl O (Am (v:=(pP b5 1)) O (AB (j:=1) O O underlying64 sizeOf3 O jY O) (CL 0 (vN ((ts.getD t jJ).2.1)) Dc O (Am (v:=(pP (pB x.a.p) (pO x.a.p+((ts.getD t jJ).2.1)*10))) O (AQ (j:=(ts.getD t jJ).2.1) O O x.a.ok underlying35 sizeOf62 O Z) (Am (v:=(aG (Ah (ps.getD ((ts.getD t jJ).2.1) (⟨0,0⟩:Pt))))) O (Ak (vs:=Ah (ps.getD ((ts.getD t jJ).2.1) (⟨0,0⟩:Pt))) (i:=2) O O (BG.ne x.a.ok Z) BJ (BE DN _ _ _ Z) (DN _)) (Am (v:=(pP b1 0)) O (AA O underlying37 O sizeOf35 O) (CL 1 (qz x.a.p ps.length x.a.c) Kl O ?_)))))))))))
 refine Am (v:=(pP b5 2)) O (AB (j:=2) O O underlying64 sizeOf3 O jY O) (CL 0 (vN ((ts.getD t jJ).2.2)) Dc O (Am (v:=(pP (pB x.a.p) (pO x.a.p+((ts.getD t jJ).2.2)*10))) O (AQ (j:=(ts.getD t jJ).2.2) O O x.a.ok underlying35 sizeOf62 O Z) (Am (v:=(aG (Ah (ps.getD ((ts.getD t jJ).2.2) (⟨0,0⟩:Pt))))) O (Ak (vs:=Ah (ps.getD ((ts.getD t jJ).2.2) (⟨0,0⟩:Pt))) (i:=2) O O (BG.ne x.a.ok Z) BJ (BE DN _ _ _ Z) (DN _)) (zD O (F8 O sizeOf62 O (zC (sk (sl (sl (sl sr)))) (zD O (E7 O sizeOf62 O (zC (sk (sl (sl (sl sr)))) (zD O (DK O sizeOf62 O ?_)))))))))))
 exact zC (sk (sl (sl (sl sr)))) (zP (zB (sL [1,2,4,5,6,7] O) (zA (zF (DV O (Ab (i:=3) (cs:=Ah (ps.getD ((ts.getD t jJ).1) (⟨0,0⟩:Pt))) O O isAgg62 sizeOf62 O) (Ab (i:=2) (cs:=Ah (ps.getD ((ts.getD t jJ).2.1) (⟨0,0⟩:Pt))) O O isAgg62 sizeOf62 O) (Ab (i:=1) (cs:=Ah (ps.getD ((ts.getD t jJ).2.2) (⟨0,0⟩:Pt))) O O isAgg62 sizeOf62 O) (λw hw=>⟨rfl,hw.out⟩))))))
theorem PR {ps:List Pt} {zt ss:List Z3} (x:MZ ps zt ss) (t:Nat) (ht:t<(zt.map natT).length) (hn:EO ps.length zt=true) (w:World) {S:Nat->Prop} (hx:Ro S w x):Calls prog 69 #[(aG (EU x)),(vN t)] w (Ac w (Value.tuple #[(aG (Ah (BU ps ((zt.map natT).getD t (0,0,0)).1))),(aG (Ah (BU ps ((zt.map natT).getD t (0,0,0)).2.1))),(aG (Ah (BU ps ((zt.map natT).getD t (0,0,0)).2.2)))])):=by
 obtain ⟨ts,rfl,hnb⟩:=MD hn
 obtain ⟨y,hy,hro⟩:=ek x
 rw [Ly] at ht ⊢
 have k:=PQ y t ht (Oj hnb ht) w (hro hx)
 rw [hy] at k
 exact k
end
section
set_option maxRecDepth 100000
theorem TG  (w:World) {S:Nat->Prop}  :Calls prog 165 #[] w (Aj (NX 1) S w):=by
 exact AV (args:=[]) func165 O O (leB O) (zI sN (q4 (asg' O (oNl' (q2 (cN (S:=S) (x:=1) (args:=[(Value.int .u64 (1:Int))]) call188 (λw hw=>SS 1 (by first|omega|(simp only [Int.natAbs_neg];omega)) w) O O O λg1 lg1=>asg' O (oNl' (zB (sL [0] O) (zA (zF (ret_one O (rd_tmp (v:=(Ce g1)) O) (λw hw=>DU (a:=(g1:NX 1)) hw (inS hw 0 O lg1) O))))))))))))
theorem qDen_ok {x:Rat} (a:FX x) (hs:Sz x<=16777216) (w:World) {S:Nat->Prop} (ha:Ro S w a)  :Calls prog 111 #[(aG (fxL a))] w (Aj (NX x.den) S w):=by
 have s0:=DF x
 have s1:=Cu x
 have s2:=GF x
 have h1w:=Jz
 have la:=Bx (W:=w) ha
 refine AZ (args:=[(aG (fxL a))]) (L:=[AM a.z.n,AM a.m]) func111 O O (leB O) (M5 ha Ao) (zI (sL [0] O) (q4 (BH (cs:=fxL a) O λb1=>asg' O (q6 (sL [1,2] O) (B9 [(0,true),(1,true),(2,false),(3,false),(4,true)] sr (Am (v:=(pP b1 2)) O (AA O underlying84 O sizeOf80 O) (CL 0 (Ce a.m) Gj O (zD O (cN (S:=S) (x:=1) (args:=[]) call165 (λw hw=>TG w) O O O λg1 lg1=>zC (sl sr) ?_)))))))))
 exact zD O (cN (S:=S) (x:=x.den) (args:=[(Ce a.m),(Ce g1)]) call164 (λw hw=>(Aj.cast (T:=λi=>NX i) (Nat.sub_add_cancel x.den_pos) (Td a.m g1 (by first|omega|(simp only [Int.natAbs_neg];omega)) (by first|omega|(simp only [Int.natAbs_neg];omega)) w (gv (inS hw 2 O la)) (inS hw 0 O lg1)))) O O O λg2 lg2=>zC (sl (sl sr)) (pS' O (zP (zB (sL [2] O) (zA (zF (ret_one O (rd_tmp (v:=(Ce g2)) O) (λw hw=>DU (a:=(g2:NX x.den)) hw (inS hw 0 O lg2) O))))))))
theorem TH {x:Rat} (a:FX x) (hs:Sz x<=16777216) (w:World) {S:Nat->Prop} (ha:Ro S w a)  :Calls prog 160 #[(aG (fxL a))] w (Aj (ZX ((x.den:Nat):Int)) S w):=by
 have la:=Bx (W:=w) ha
 refine AZ (args:=[(aG (fxL a))]) (L:=[AM a.z.n,AM a.m]) func160 O O (leB O) (M5 ha Ao) (zI (sL [0] O) (q4 (BH (cs:=fxL a) O λb1=>al VE O λb2=>q3 (sL [1,2] O) (Af 1 Br O (cN (S:=S) (x:=x.den) (args:=[(aG (fxL a))]) call111 (λw hw=>qDen_ok a Z w (inS hw 2 O la)) O O O λg1 lg1=>cZ (S:=S) (x:=((x.den:Nat):Int)) (args:=[(qa false),(Ce g1)]) call157 (λw hw=>(Aj.cast (T:=λi=>ZX i) (show Eh false x.den=_ from O) (EX false g1 w (inS hw 0 O lg1)))) O O O λg2 lg2=>E7 O sizeOf82 O (oNl' (zB (sL [2] O) ?_)))))))
 exact zA (zF (ret_one O (Ab (i:=2) (cs:=Dx g2) O O isAgg82 sizeOf82 O) (λw hw=>DU (a:=(g2:ZX ((x.den:Nat):Int))) hw (inS hw 0 O lg2) O)))
theorem MO {n:Int} {k:Nat} (z:ZX n) (d:NX k) (hn:nw n.natAbs<=67108864) (hk:nw k<=67108864) (h0:k≠0) (w:World) {S:Nat->Prop} (hz:Ro S w z) (hd:Ro S w d)  :Calls prog 156 #[(aG (Dx z)),(Ce d)] w (Aj (FX (mkRat n k)) S w):=by
 have hg:0<Nat.gcd n.natAbs k:=Nat.pos_of_ne_zero λh=>h0 (Nat.eq_zero_of_gcd_eq_zero_right h)
 have hgw:nw (Nat.gcd n.natAbs k)<=nw k:=DA (Nat.gcd_le_right _ (Nat.pos_of_ne_zero h0))
 have hqw:nw (k/Nat.gcd n.natAbs k)<=nw k:=DA (Nat.div_le_self _ _)
 have hq1:1<=k/Nat.gcd n.natAbs k:=Nat.div_pos (Nat.gcd_le_right _ (Nat.pos_of_ne_zero h0)) hg
 have lz:=Bx (W:=w) hz
 have ld:=Bx (W:=w) hd
 refine AZ (args:=[(aG (Dx z)),(Ce d)]) (L:=[AM z.n,AM d]) func156 O O (leB O) (au hz (gD hd Ao)) (zI (sL [0,1] O) (q4 (BH (cs:=Dx z) O λb1=>al Hz O λb2=>q3 (sL [1,2,4] O) (st' (v:=(pP b1 1)) (AA O underlying82 O sizeOf80 O) O (BL 1 (Ce z.n) Gj O (AK O (cN (S:=S) (x:=(Nat.gcd n.natAbs k)) (args:=[(Ce z.n),(Ce d)]) call189 (λw hw=>bG z.n d (by first|omega|(simp only [Int.natAbs_neg];omega)) (by first|omega|(simp only [Int.natAbs_neg];omega)) w (QT (inS hw 2 O lz)) (inS hw 3 O ld)) O O O λg1 lg1=>asg' O (q3 (sL [1,2,4,5] O) ?_))))))))
 refine st' (v:=(pP b1 1)) (AA O underlying82 O sizeOf80 O) O (BL 2 (Ce z.n) Gj O (AK O (cD (S:=S) (u:=(n.natAbs/(Nat.gcd n.natAbs k))) (v:=(n.natAbs%(Nat.gcd n.natAbs k))) (args:=[(Ce z.n),(Ce g1)]) call190 (λw hw=>Te z.n g1 hg Z Z w (QT (inS hw 3 O lz)) (inS hw 0 O lg1)) O O O λg2 lg2=>AK O (st' (AJ (v:=(Ce g2.q)) O O) O (st' (AJ (v:=(Ce g2.r)) O O) O (asg' O (asg' O (q3 (sL [1,2,4,5,6] O) (AK O (AK O ?_))))))))))
 refine cD (S:=S) (u:=(k/(Nat.gcd n.natAbs k))) (v:=(k%(Nat.gcd n.natAbs k))) (args:=[(Ce d),(Ce g1)]) call190 (λw hw=>Te d g1 hg Z Z w (inS hw 6 O ld) (inS hw 2 O lg1)) O O O λg3 lg3=>AK O (st' (AJ (v:=(Ce g3.q)) O O) O (st' (AJ (v:=(Ce g3.r)) O O) O (asg' O (asg' O (q3 (sL [1,2,4,5,6,8] O) (st' (v:=(pP b1 0)) (AA O underlying82 O sizeOf4 O) O (BL 6 (qa (decide (n<0))) Mj O (AK O (cZ (S:=S) (x:=((mkRat n k).num)) (args:=[(qa (decide (n<0))),(Ce g2.q)]) call157 (λw hw=>(Aj.cast (T:=λi=>ZX i) (Wm h0) (EX (decide (n<0)) g2.q w (fI (inS hw 2 O lg2))))) O O O λg4 lg4=>AK O ?_)))))))))
 exact cN (S:=S) (x:=1) (args:=[]) call165 (λw hw=>TG w) O O O λg5 lg5=>cN (S:=S) (x:=((mkRat n k).den-1)) (args:=[(Ce g3.q),(Ce g5)]) call191 (λw hw=>(Aj.cast (T:=λi=>NX i) (Wl h0) (PC g3.q g5 hq1 Z w (fI (inS hw 2 O lg3)) (inS hw 0 O lg5)))) O O O λg6 lg6=>st' (v:=(aG (Dx g4++[(Ce g6)]))) (AS (zs:=[(qa false),jj,jj]) (vs:=Dx g4++[(Ce g6)]) (pv:=[(0,(aG (Dx g4))),(1,(Ce g6))]) (places:=[(0,2),(2,1)]) zeroValue84 underlying84 (λw=>by simp [sizeOf80,sizeOf82]) O O) O (Dt 8 (off:=0) (vs:=Dx g4++[(Ce g6)]) (cs':=Dx g4++[(Ce g6)]) (AG O) O sizeOf84 O (oNl' (zB (sL [1,2,4,5] O) (zA (zF (ret_one O (Ab (i:=8) (cs:=Dx g4++[(Ce g6)]) O O isAgg84 sizeOf84 O) (λw hw=>DU (a:=((FX.mk g4 g6):FX (mkRat n k))) hw (bU (inS hw 2 O lg4) (inS hw 0 O lg6)) O)))))))
theorem If {r0:Int} (x0:ZX r0):Instr.fill ([(0,2),(2,1)].toArray[·]?) ([(qa false),jj,jj]).toArray [(0,.agg (Dx x0).toArray)]=some (Dx x0++[jj]).toArray:=by kernel_rfl
theorem IF (z:Int) (hz:-9223372036854775808<=z) (hz2:z<9223372036854775808) (w:World) {S:Nat->Prop}  :Calls prog 98 #[(vI z)] w (Aj (FX ((z:Int):Rat)) S w):=by
 refine AV (args:=[(vI z)]) func98 O O (leB O) (zI (sL [0] O) (q4 (al Hz O λb1=>oNl' (q2 (AK O (cZ (S:=S) (x:=(((z:Int):Rat).num)) (args:=[(vI z)]) call150 (λw hw=>(Aj.cast (T:=λi=>ZX i) (show z=((z:Int):Rat).num from O) (dp z Z Z w))) O O O λg1 lg1=>st' (v:=(aG (Dx g1++[jj]))) (AS (zs:=[(qa false),jj,jj]) (vs:=Dx g1++[jj]) (pv:=[(0,(aG (Dx g1)))]) (places:=[(0,2),(2,1)]) zeroValue84 underlying84 (λw=>by simp [sizeOf80,sizeOf82]) O (If g1)) O (DK O sizeOf84 O (oNl' (zB (sL [2] O) ?_)))))))))
 exact zA (zF (ret_one O (Ab (i:=1) (cs:=Dx g1++[jj]) O O isAgg84 sizeOf84 O) (λw hw=>DU (a:=((FX.mk g1 NX.zero):FX ((z:Int):Rat))) hw (bU (inS hw 0 O lg1) MT) O)))
theorem Gd {x:Rat} (a:FX x) (w:World) {S:Nat->Prop} (ha:Ro S w a)  :Calls prog 104 #[(aG (fxL a))] w (Ac w (vI x.num.sign)):=by
 have la:=Bx (W:=w) ha
 refine AZ (args:=[(aG (fxL a))]) (L:=[AM a.z.n,AM a.m]) func104 O O (leB O) (M5 ha Ao) (zI (sL [0] O) (q4 (BH (cs:=fxL a) O λb1=>asg' O (q3 (sL [1,2] O) (st' (v:=(pP b1 0)) (AA O underlying84 O sizeOf82 O) O (By 0 (Dx a.z) Qc O (CQ call162 (λw hw=>YP a.z w (YX (inS hw 1 O la))) O (asg' O (oNl' (zB (sL [2] O) ?_))))))))))
 exact zA (zF (ret_one O (rd_tmp (v:=(vI x.num.sign)) O) (λw hw=>⟨rfl,hw.out⟩)))
theorem aI {x:Rat} (a:FX x) (w:World) {S:Nat->Prop} (ha:Ro S w a)  :Calls prog 163 #[(aG (fxL a))] w (Aj (FX (-x)) S w):=by
 have la:=Bx (W:=w) ha
 refine AZ (args:=[(aG (fxL a))]) (L:=[AM a.z.n,AM a.m]) func163 O O (leB O) (M5 ha Ao) (zI (sL [0] O) (q4 (BH (cs:=fxL a) O λb1=>al Hz O λb2=>q6 (sL [1,2] O) (B9 [(0,true),(1,true),(3,true),(4,true),(2,false),(5,true),(6,false)] (sl sr) (Am (v:=(pP b1 0)) O (AA O underlying84 O sizeOf82 O) (Dz 0 (Dx a.z) Qc O (Am (v:=(pP b1 2)) O (AA O underlying84 O sizeOf80 O) (CL 0 (Ce a.m) Gj O (zD O ?_)))))))))
 exact cZ (S:=S) (x:=((-x).num)) (args:=[(aG (Dx a.z))]) call195 (λw hw=>(Aj.cast (T:=λi=>ZX i) (Rat.neg_num x).symm (bI a.z w (YX (inS hw 2 O la))))) O O O λg1 lg1=>zC (sl (sl sr)) (Am (v:=(aG (Dx g1++[(Ce a.m)]))) O (AS (zs:=[(qa false),jj,jj]) (vs:=Dx g1++[(Ce a.m)]) (pv:=[(0,(aG (Dx g1))),(1,(Ce a.m))]) (places:=[(0,2),(2,1)]) zeroValue84 underlying84 (λw=>by simp [sizeOf80,sizeOf82]) O O) (zD O (DK O sizeOf84 O (zC (sl (sl sr)) (zP (zB (sL [2] O) (zA (zF (ret_one O (Ab (i:=1) (cs:=Dx g1++[(Ce a.m)]) O O isAgg84 sizeOf84 O) (λw hw=>DU (a:=((FX.mk g1 a.m):FX (-x))) hw (bU (inS hw 0 O lg1) (gv (inS hw 3 O la))) O))))))))))
theorem JP {x y:Rat} (a:FX x) (b:FX y) (hs:Sz x+Sz y<=16777216) (w:World) {S:Nat->Prop} (ha:Ro S w a) (hb:Ro S w b)  :Calls prog 102 #[(aG (fxL a)),(aG (fxL b))] w (Aj (FX (x+y)) S w):=by
 have s0:=DF x
 have s1:=Cu x
 have s2:=GF x
 have s3:=DF y
 have s4:=Cu y
 have s5:=GF y
 have s6:=Ch x y
 have s7:=Ch y x
 have s8:=G2 x y
 have s9:=Hr x y
 have s10:=Eb (x.num*((y.den:Nat):Int)) (y.num*((x.den:Nat):Int))
 have h0x:=x.den_nz
 have h0y:=y.den_nz
 have h0xy:=Nat.mul_ne_zero h0x h0y
 have la:=Bx (W:=w) ha
 have lb:=Bx (W:=w) hb
 refine AZ (args:=[(aG (fxL a)),(aG (fxL b))]) (L:=[AM a.z.n,AM a.m,AM b.z.n,AM b.m]) func102 O O (leB O) (M5 ha (M5 hb Ao)) (zI (sL [0,1] O) (q4 (BH (cs:=fxL a) O λb1=>BH (cs:=fxL b) O λb2=>al Hz O λb3=>q6 (sL [2,3,4] O) (B9 [(0,true),(1,true),(2,true),(5,true),(6,true),(7,true),(11,true),(13,true),(3,false),(4,false),(8,false),(9,false),(10,false),(12,false),(14,false),(15,false),(16,false),(17,false)] (sl sr) (Am (v:=(pP b1 0)) O (AA O underlying84 O sizeOf82 O) (Dz 1 (Dx a.z) Qc O (B3 0 Br O (Am (v:=(pP b2 0)) O (AA O underlying84 O sizeOf82 O) ?_))))))))
 refine Dz 0 (Dx b.z) Qc O (B3 1 Br O (B3 1 Br O (B3 0 Br O (zD O (cZ (S:=S) (x:=((y.den:Nat):Int)) (args:=[(aG (fxL b))]) call160 (λw hw=>TH b Z w (inS hw 5 O lb)) O O O λg1 lg1=>zC (sl (sl sr)) (zD O (cZ (S:=S) (x:=(x.num*((y.den:Nat):Int))) (args:=[(aG (Dx a.z)),(aG (Dx g1))]) call159 (λw hw=>PF a.z g1 Z (by show nw y.den<=_;omega) w (YX (inS hw 4 O la)) (inS hw 0 O lg1)) O O O λg2 lg2=>zC (sl (sl (sl sr))) (zD O (cZ (S:=S) (x:=((x.den:Nat):Int)) (args:=[(aG (fxL a))]) call160 (λw hw=>TH a Z w (inS hw 5 O la)) O O O λg3 lg3=>?_)))))))))
 refine zC (sl (sl (sl (sl sr)))) (zD O (cZ (S:=S) (x:=(y.num*((x.den:Nat):Int))) (args:=[(aG (Dx b.z)),(aG (Dx g3))]) call159 (λw hw=>PF b.z g3 Z (by show nw x.den<=_;omega) w (YX (inS hw 8 O lb)) (inS hw 0 O lg3)) O O O λg4 lg4=>zC (sl (sl (sl (sl (sl sr))))) (zD O (cZ (S:=S) (x:=((x.num*((y.den:Nat):Int))+(y.num*((x.den:Nat):Int)))) (args:=[(aG (Dx g2)),(aG (Dx g4))]) call158 (λw hw=>bH g2 g4 Z Z w (inS hw 2 O lg2) (inS hw 0 O lg4)) O O O λg5 lg5=>zC (sl (sl (sl (sl (sl (sl sr)))))) (zD O (cN (S:=S) (x:=x.den) (args:=[(aG (fxL a))]) call111 (λw hw=>qDen_ok a Z w (inS hw 8 O la)) O O O λg6 lg6=>zC (sl (sl (sl (sl (sl (sl (sl sr))))))) (zD O (cN (S:=S) (x:=y.den) (args:=[(aG (fxL b))]) call111 (λw hw=>qDen_ok b Z w (inS hw 11 O lb)) O O O λg7 lg7=>?_))))))))
 refine zC (sl (sl (sl (sl (sl (sl (sl (sl sr)))))))) (zD O (cN (S:=S) (x:=(x.den*y.den)) (args:=[(Ce g6),(Ce g7)]) call161 (λw hw=>PB g6 g7 (by first|omega|(simp only [Int.natAbs_neg];omega)) (by first|omega|(simp only [Int.natAbs_neg];omega)) w (inS hw 1 O lg6) (inS hw 0 O lg7)) O O O λg8 lg8=>zC (sl (sl (sl (sl (sl (sl (sl (sl (sl sr))))))))) (zD O (cF (S:=S) (x:=(x+y)) (args:=[(aG (Dx g5)),(Ce g8)]) call156 (λw hw=>(Aj.cast (T:=λi=>FX i) (H7 x y) (MO g5 g8 Z Z h0xy w (inS hw 3 O lg5) (inS hw 0 O lg8)))) O O O λg9 lg9=>zC (sl (sl (sl (sl (sl (sl (sl (sl (sl (sl (sl sr))))))))))) (zD O (Dt 10 (off:=0) (vs:=fxL g9) (cs':=fxL g9) (AG O) O sizeOf84 O (zC (sl (sl (sl (sl (sl (sl (sl (sl (sl (sl (sl sr))))))))))) (zP (zB (sL [4] O) ?_)))))))))
 exact zA (zF (ret_one O (Ab (i:=10) (cs:=fxL g9) O O isAgg84 sizeOf84 O) (λw hw=>DU (a:=(g9:FX (x+y))) hw (inS hw 0 O lg9) O)))
theorem K_ {x y:Rat} (a:FX x) (b:FX y) (hs:Sz x+Sz y<=16777216) (w:World) {S:Nat->Prop} (ha:Ro S w a) (hb:Ro S w b)  :Calls prog 105 #[(aG (fxL a)),(aG (fxL b))] w (Aj (FX (x-y)) S w):=by
 have la:=Bx (W:=w) ha
 have lb:=Bx (W:=w) hb
 refine AZ (args:=[(aG (fxL a)),(aG (fxL b))]) (L:=[AM a.z.n,AM a.m,AM b.z.n,AM b.m]) func105 O O (leB O) (M5 ha (M5 hb Ao)) (zI (sL [0,1] O) (q4 (BH (cs:=fxL a) O λb1=>BH (cs:=fxL b) O λb2=>al Hz O λb3=>q6 (sL [2,3,4] O) (B9 [(0,true),(1,true),(2,false),(3,false),(4,false)] (sl sr) (B3 1 Br O (B3 0 Br O (zD O (cF (S:=S) (x:=(-y)) (args:=[(aG (fxL b))]) call163 (λw hw=>aI b w (inS hw 5 O lb)) O O O λg1 lg1=>?_))))))))
 refine zC (sl (sl (sl sr))) (zD O ?_)
 have hz1:=Ds x (-y)
 exact cF (S:=S) (x:=(x-y)) (args:=[(aG (fxL a)),(aG (fxL g1))]) call102 (λw hw=>(Aj.cast (T:=λi=>FX i) (Rat.sub_eq_add_neg x y).symm (JP a g1 (by (try simp only [BN]);omega) w (inS hw 5 O la) (inS hw 0 O lg1)))) O O O λg2 lg2=>zC (sl (sl (sl (sl (sl sr))))) (zD O (Dt 4 (off:=0) (vs:=fxL g2) (cs':=fxL g2) (AG O) O sizeOf84 O (zC (sl (sl (sl (sl (sl sr))))) (zP (zB (sL [4] O) (zA (zF (ret_one O (Ab (i:=4) (cs:=fxL g2) O O isAgg84 sizeOf84 O) (λw hw=>DU (a:=(g2:FX (x-y))) hw (inS hw 0 O lg2) O)))))))))
theorem HB {x y:Rat} (a:FX x) (b:FX y) (hs:Sz x+Sz y<=16777216) (w:World) {S:Nat->Prop} (ha:Ro S w a) (hb:Ro S w b)  :Calls prog 155 #[(aG (fxL a)),(aG (fxL b))] w (Aj (FX (x*y)) S w):=by
 have s0:=DF x
 have s1:=Cu x
 have s2:=GF x
 have s3:=DF y
 have s4:=Cu y
 have s5:=GF y
 have s6:=Ch x y
 have s7:=Ch y x
 have s8:=G2 x y
 have s9:=Hr x y
 have s10:=Eb (x.num*((y.den:Nat):Int)) (y.num*((x.den:Nat):Int))
 have h0x:=x.den_nz
 have h0y:=y.den_nz
 have h0xy:=Nat.mul_ne_zero h0x h0y
 have la:=Bx (W:=w) ha
 have lb:=Bx (W:=w) hb
 refine AZ (args:=[(aG (fxL a)),(aG (fxL b))]) (L:=[AM a.z.n,AM a.m,AM b.z.n,AM b.m]) func155 O O (leB O) (M5 ha (M5 hb Ao)) (zI (sL [0,1] O) (q4 (BH (cs:=fxL a) O λb1=>BH (cs:=fxL b) O λb2=>al Hz O λb3=>q6 (sL [2,3,4] O) (B9 (EV 4++[(5,true),(7,true),(4,false),(6,false),(8,false),(9,false),(10,false),(11,false)]) (sl sr) (Am (v:=(pP b1 0)) O (AA O underlying84 O sizeOf82 O) (Dz 1 (Dx a.z) Qc O (Am (v:=(pP b2 0)) O (AA O underlying84 O sizeOf82 O) (Dz 0 (Dx b.z) Qc O ?_))))))))
 refine B3 1 Br O (B3 0 Br O (zD O (cZ (S:=S) (x:=(x.num*y.num)) (args:=[(aG (Dx a.z)),(aG (Dx b.z))]) call159 (λw hw=>PF a.z b.z Z Z w (YX (inS hw 3 O la)) (YX (inS hw 5 O lb))) O O O λg1 lg1=>zC (sl (sl sr)) (zD O (cN (S:=S) (x:=x.den) (args:=[(aG (fxL a))]) call111 (λw hw=>qDen_ok a Z w (inS hw 4 O la)) O O O λg2 lg2=>zC (sl (sl (sl sr))) (zD O (cN (S:=S) (x:=y.den) (args:=[(aG (fxL b))]) call111 (λw hw=>qDen_ok b Z w (inS hw 7 O lb)) O O O λg3 lg3=>zC (sl (sl (sl (sl sr)))) (zD O ?_))))))))
 exact cN (S:=S) (x:=(x.den*y.den)) (args:=[(Ce g2),(Ce g3)]) call161 (λw hw=>PB g2 g3 (by first|omega|(simp only [Int.natAbs_neg];omega)) (by first|omega|(simp only [Int.natAbs_neg];omega)) w (inS hw 1 O lg2) (inS hw 0 O lg3)) O O O λg4 lg4=>zC (sl (sl (sl (sl (sl sr))))) (zD O (cF (S:=S) (x:=(x*y)) (args:=[(aG (Dx g1)),(Ce g4)]) call156 (λw hw=>(Aj.cast (T:=λi=>FX i) (Jv x y) (MO g1 g4 Z Z h0xy w (inS hw 3 O lg1) (inS hw 0 O lg4)))) O O O λg5 lg5=>zC (sl (sl (sl (sl (sl (sl (sl sr))))))) (zD O (Dt 6 (off:=0) (vs:=fxL g5) (cs':=fxL g5) (AG O) O sizeOf84 O (zC (sl (sl (sl (sl (sl (sl (sl sr))))))) (zP (zB (sL [4] O) (zA (zF (ret_one O (Ab (i:=6) (cs:=fxL g5) O O isAgg84 sizeOf84 O) (λw hw=>DU (a:=(g5:FX (x*y))) hw (inS hw 0 O lg5) O)))))))))))
theorem H6 (a b:Rat):Sz (a/b)<=Sz a+Sz b:=by
 by_cases h:b=0
 ·subst h;rw [Rat.div_def,Rat.inv_zero,Rat.mul_zero];have h1:=OB a;exact xK (show Sz (0:Rat)<=1 by decide +kernel) Z
 ·exact He h
theorem Lm  :Instr.fill ([(0,2),(2,1)].toArray[·]?) ([(qa false),jj,jj]).toArray []=some ([(qa false),jj,jj]).toArray:=by kernel_rfl
theorem JQ {x y:Rat} (a:FX x) (b:FX y) (hs:Sz x+Sz y<=16777216) (w:World) {S:Nat->Prop} (ha:Ro S w a) (hb:Ro S w b)  :Calls prog 101 #[(aG (fxL a)),(aG (fxL b))] w (Aj (FX (x/y)) S w):=by
 have s0:=DF x
 have s1:=Cu x
 have s2:=GF x
 have s3:=DF y
 have s4:=Cu y
 have s5:=GF y
 have s6:=Ch x y
 have s7:=Ch y x
 have s8:=G2 x y
 have s9:=Hr x y
 have s10:=Eb (x.num*((y.den:Nat):Int)) (y.num*((x.den:Nat):Int))
 have h0x:=x.den_nz
 have h0y:=y.den_nz
 have h0xy:=Nat.mul_ne_zero h0x h0y
 have la:=Bx (W:=w) ha
 have lb:=Bx (W:=w) hb
 refine AZ (args:=[(aG (fxL a)),(aG (fxL b))]) (L:=[AM a.z.n,AM a.m,AM b.z.n,AM b.m]) func101 O O (leB O) (M5 ha (M5 hb Ao)) (zI (sL [0,1] O) (q4 (BH (cs:=fxL a) O λb1=>BH (cs:=fxL b) O λb2=>al Hz O λb3=>q6 (sL [2,3,4] O) (q4 (Af 1 Br O (CQ call104 (λw hw=>Gd b w (inS hw 5 O lb)) O (st' (Au (c:=(decide (y.num.sign=(0:Int)))) O O O) O (oNl' ?_))))))))
 refine zB (sL [2,3,4,7] O) (zA ?_)
 refine zK O (λhc0=>?_) (λhc0=>?_)
 ·replace hc0:=xR hc0
  exact q4 (st' (v:=(aG ([(qa false),jj,jj]))) (AS (zs:=[(qa false),jj,jj]) (vs:=[(qa false),jj,jj]) (pv:=[]) (places:=[(0,2),(2,1)]) zeroValue84 underlying84 (λw=>by simp [sizeOf80,sizeOf82]) O (Lm )) O (An O sizeOf84 O (oNl' (zB (sL [2,3,4] O) (zA (zF (zL (ret_one O (Ab (i:=0) (cs:=[(qa false),jj,jj]) O O isAgg84 sizeOf84 O) (λw hw=>(by rw [<-WF (a:=x) hc0];exact DU (a:=FX.zero) hw (bU (dx MT) MT) O))))))))))
 ·replace hc0:=xQ hc0
  have hy:y≠0:=λe=>hc0 (by rw [e];rfl)
  have hi:=Q4 hy
  have hyn:y.num.natAbs≠0:=λe=>hy (Rat.num_eq_zero.1 Z)
  refine zG (q1 (B9 (EV 5++[(7,true),(8,true),(9,true),(5,false),(6,false),(10,false),(11,false),(12,false)]) (sl sr) (B3 1 Br O (Am (v:=(pP b2 0)) O (AA O underlying84 O sizeOf82 O) (Am (v:=(pP b2 0)) O (AA O underlying82 O sizeOf4 O) (CL 0 (qa (decide (y.num<0))) Mj O (B3 0 Br O (Am (v:=(pP b2 0)) O (AA O underlying84 O sizeOf82 O) (Am (v:=(pP b2 1)) O (AA O underlying82 O sizeOf80 O) (CL 0 (Ce b.z.n) Gj O (zD O ?_)))))))))))
  refine cN (S:=S) (x:=y.den) (args:=[(aG (fxL b))]) call111 (λw hw=>qDen_ok b Z w (inS hw 5 O lb)) O O O λg1 lg1=>zC (sl (sl sr)) (zD O (cZ (S:=S) (x:=(Eh (decide (y.num<0)) y.den)) (args:=[(qa (decide (y.num<0))),(Ce g1)]) call157 (λw hw=>EX (decide (y.num<0)) g1 w (inS hw 0 O lg1)) O O O λg2 lg2=>zC (sl (sl (sl sr))) (zD O (cF (S:=S) (x:=(y⁻¹)) (args:=[(aG (Dx g2)),(Ce b.z.n)]) call156 (λw hw=>(Aj.cast (T:=λi=>FX i) (gg hy) (MO g2 b.z.n (by rw [Av];omega) Z hyn w (inS hw 0 O lg2) (QT (YX (inS hw 7 O lb)))))) O O O λg3 lg3=>zC (sl (sl (sl (sl (sl sr))))) (zD O ?_)))))
  have hz1:=Cm x (y⁻¹)
  exact cF (S:=S) (x:=(x/y)) (args:=[(aG (fxL a)),(aG (fxL g3))]) call155 (λw hw=>(Aj.cast (T:=λi=>FX i) Y8 (HB a g3 (by (try simp only [BN]);omega) w (inS hw 7 O la) (inS hw 0 O lg3)))) O O O λg4 lg4=>zC (sl (sl (sl (sl (sl (sl (sl sr))))))) (zD O (Dt 6 (off:=0) (vs:=fxL g4) (cs':=fxL g4) (AG O) O sizeOf84 O (zC (sl (sl (sl (sl (sl (sl (sl sr))))))) (zP (zB (sL [3,4] O) (zA (zF (ret_one O (Ab (i:=6) (cs:=fxL g4) O O isAgg84 sizeOf84 O) (λw hw=>DU (a:=(g4:FX (x/y))) hw (inS hw 0 O lg4) O)))))))))
theorem GJ {x y:Rat} (a:FX x) (b:FX y) (hs:Sz x+Sz y<=16777216) (w:World) {S:Nat->Prop} (ha:Ro S w a) (hb:Ro S w b)  :Calls prog 56 #[(aG (fxL a)),(aG (fxL b))] w (Ac w (vI (BR x y))):=by
 have la:=Bx (W:=w) ha
 have lb:=Bx (W:=w) hb
 refine AZ (args:=[(aG (fxL a)),(aG (fxL b))]) (L:=[AM a.z.n,AM a.m,AM b.z.n,AM b.m]) func56 O O (leB O) (M5 ha (M5 hb Ao)) (zI (sL [0,1] O) (q4 (BH (cs:=fxL a) O λb1=>BH (cs:=fxL b) O λb2=>asg' O (q3 (sL [2,3,4] O) (Af 1 Br O (Af 0 Br O ?_))))))
 have hz1:=Eq x y
 exact cF (S:=S) (x:=(x-y)) (args:=[(aG (fxL a)),(aG (fxL b))]) call105 (λw hw=>K_ a b (by (try simp only [BN]);omega) w (inS hw 2 O la) (inS hw 4 O lb)) O O O λg1 lg1=>CQ call104 (λw hw=>Gd g1 w (inS hw 0 O lg1)) O (asg' O (oNl' (zB (sL [4] O) (zA (zF (ret_one O (rd_tmp (v:=(vI ((x-y).num.sign))) O) (λw hw=>⟨by rw [gS],hw.out⟩)))))))
theorem QO {x y:Rat} (a:FX x) (b:FX y) (hs:Sz x+Sz y<=16777216) (w:World) {S:Nat->Prop} (ha:Ro S w a) (hb:Ro S w b)  :Calls prog 97 #[(aG (fxL a)),(aG (fxL b))] w (Ac w (qa (decide (x=y)))):=by
 have la:=Bx (W:=w) ha
 have lb:=Bx (W:=w) hb
 refine AZ (args:=[(aG (fxL a)),(aG (fxL b))]) (L:=[AM a.z.n,AM a.m,AM b.z.n,AM b.m]) func97 O O (leB O) (M5 ha (M5 hb Ao)) (zI (sL [0,1] O) (q4 (BH (cs:=fxL a) O λb1=>BH (cs:=fxL b) O λb2=>asg' O (q3 (sL [2,3,4] O) (Af 1 Br O (Af 0 Br O (CQ call56 (λw hw=>GJ a b Z w (inS hw 2 O la) (inS hw 4 O lb)) O (st' (Au (c:=(decide ((BR x y)=(0:Int)))) O O O) O (asg' O ?_)))))))))
 exact oNl' (zB (sL [4] O) (zA (zF (ret_one O (rd_tmp (v:=(qa (decide ((BR x y)=(0:Int))))) O) (λw hw=>⟨by simp only [I0],hw.out⟩)))))
theorem dF (n d:Int) (h1:-9223372036854775808<=n) (h2:n<9223372036854775808) (h3:-9223372036854775808<=d) (h4:d<9223372036854775808) (w:World) {S:Nat->Prop}  :Calls prog 96 #[(vI n),(vI d)] w (Aj (FX (((n:Int):Rat)/((d:Int):Rat))) S w):=by
 have s1:=IY h1 h2
 have s2:=IY h3 h4
 refine AV (args:=[(vI n),(vI d)]) func96 O O (leB O) (zI (sL [0,1] O) (q4 (al Hz O λb1=>oNl' (q2 (AK O (cF (S:=S) (x:=((n:Int):Rat)) (args:=[(vI n)]) call98 (λw hw=>IF n Z Z w) O O O λg1 lg1=>AK O (cF (S:=S) (x:=((d:Int):Rat)) (args:=[(vI d)]) call98 (λw hw=>IF d Z Z w) O O O λg2 lg2=>?_)))))))
 have hz1:=H6 ((n:Int):Rat) ((d:Int):Rat)
 exact cF (S:=S) (x:=(((n:Int):Rat)/((d:Int):Rat))) (args:=[(aG (fxL g1)),(aG (fxL g2))]) call101 (λw hw=>JQ g1 g2 (by (try simp only [BN]);omega) w (inS hw 2 O lg1) (inS hw 0 O lg2)) O O O λg3 lg3=>Dt 6 (off:=0) (vs:=fxL g3) (cs':=fxL g3) (AG O) O sizeOf84 O (oNl' (zB (sL [4] O) (zA (zF (ret_one O (Ab (i:=6) (cs:=fxL g3) O O isAgg84 sizeOf84 O) (λw hw=>DU (a:=(g3:FX (((n:Int):Rat)/((d:Int):Rat)))) hw (inS hw 0 O lg3) O))))))
theorem XO {x:Rat} (a:FX x) (hs:Sz x<=16777216) (w:World) {S:Nat->Prop} (ha:Ro S w a)  :Calls prog 59 #[(aG (fxL a))] w (Ac w (Value.string (txB (Ya x)))):=by
 have s0:=DF x
 have s1:=Cu x
 have s2:=GF x
 have hl1:=TZ x.num
 have hl2:=Jl x.den
 have la:=Bx (W:=w) ha
 refine AZ (args:=[(aG (fxL a))]) (L:=[AM a.z.n,AM a.m]) func59 O O (leB O) (M5 ha Ao) (zI (sL [0] O) (q4 (BH (cs:=fxL a) O λb1=>asg' O (q6 (sL [1,2] O) (q4 (st' (v:=(pP b1 2)) (AA O underlying84 O sizeOf80 O) O (BL 0 (Ce a.m) Gj O (st' (v:=(vN ((dg (x.den-1)).length))) (AD O underlying80) O (st' (Au (c:=(decide (((dg (x.den-1)).length)=0))) O O (K0 (a:=(dg (x.den-1)).length) (b:=0))) O (oNl' ?_))))))))))
 refine zB (sL [1,2,6] O) (zA ?_)
 refine zK O (λhc0=>?_) (λhc0=>?_)
 ·replace hc0:=xR hc0
  have he:Ya x=txI x.num:=by unfold Ya;rw [if_pos (QE hc0)]
  exact q4 (st' (v:=(pP b1 0)) (AA O underlying84 O sizeOf82 O) O (By 0 (Dx a.z) Qc O (CQ call109 (λw hw=>Qt a.z Z w (YX (inS hw 1 O la))) O (asg' O (oNl' (zB (sL [1,2] O) (zA (zF (zL (ret_one O (rd_tmp (v:=(Value.string (txB (txI x.num)))) O) (λw hw=>⟨by rw [he],hw.out⟩)))))))))))
 ·replace hc0:=xQ hc0
  have he:Ya x=txI x.num++[47]++Lib.decDigits x.den:=by unfold Ya;rw [if_neg (I8 hc0),xC];rfl
  refine zG (q1 (B9 [(0,true),(1,true),(4,true),(2,false),(3,true),(5,false),(6,false),(7,true),(8,true)] sr (Am (v:=(pP b1 0)) O (AA O underlying84 O sizeOf82 O) (Dz 0 (Dx a.z) Qc O (B3 0 Br O (zD O (CQ call109 (λw hw=>Qt a.z Z w (YX (inS hw 1 O la))) O (zC sr (Am (v:=(Value.string (txB (txI x.num++[47])))) O (Bz (r:=(txB (txI x.num++[47]))) O O (by rw [DW];show _+1<=_;omega) (EB _ [47])) (zD O (cN (S:=S) (x:=x.den) (args:=[(aG (fxL a))]) call111 (λw hw=>qDen_ok a Z w (inS hw 1 O la)) O O O λg1 lg1=>?_)))))))))))
  exact zC (sl sr) (zD O (CQ call110 (λw hw=>M1 g1 (by first|omega|(simp only [Int.natAbs_neg];omega)) w (inS hw 0 O lg1)) O (zC (sl sr) (Am (v:=(Value.string (txB (txI x.num++[47]++Lib.decDigits x.den)))) O (Bz (r:=(txB (txI x.num++[47]++Lib.decDigits x.den))) O O (by rw [DW,DW,xJ];show _+1+_<=_;omega) (EB _ _)) (pS' O (zP (zB (sL [1,2] O) (zA (zF (ret_one O (rd_tmp (v:=(Value.string (txB (txI x.num++[47]++Lib.decDigits x.den)))) O) (λw hw=>⟨by rw [he],hw.out⟩)))))))))))
end
section
section
variable {P:Program} {ops:Array Oper} {rest:List Oper} {Q:Exit->Act->World->Prop} {n:Nat} {F:List (Nat×Value)} {w0:Ay} {L:List As} {d:Option Tmp} {op:Op} {t:TypeId} {p:String} {af:Array Edge} {g:Nat×Bool}
theorem yY (hw:Wt ops n F ⟨d,op,t,p,af,some g⟩) (next:AP P ops (⟨d,op,t,p,af,none⟩::rest) Q n F w0 L):AP P ops (⟨d,op,t,p,af,some g⟩::rest) Q n F w0 L:=λa w ha hW=>by
  have h:=next a w ha hW
  unfold wpList at h ⊢
  rw [if_pos (hw a ha)]
  rw [if_pos (AG rfl a ha)] at h
  exact h
end
end
end Go.Proofs.YtcpkbjjmcleplaaGreatDoor
