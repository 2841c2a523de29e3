import Derived.Test.YtbfdamnfcmefmaaGreatDoorPart35
namespace Go.Proofs.YtbfdamnfcmefmaaGreatDoor
open Go Go.RowKit Go.Proofs.Tryz
open Go.Value renaming slice→qz,bool→qa
set_option linter.unusedVariables false
set_option linter.unusedSimpArgs false
section
set_option maxRecDepth 100000
theorem PK {ps:List Pt} {us:List T3} {ss:List Z3} (pa tp pc:Option Addr) (ka tk kc tc n:Nat) (okA:Aw pa ps.length ka) (okB:Aw tp n tk) (okC:Aw pc ss.length kc) (hn:us.length=n) (hnb:BV ps.length us=true) (htl:n<=1000000) (hN:ps.length<=1000000) (hz:∀i,Bn (cor ps i)<=200000) (ho1:OwnOk tp n tc) (w:World) {w0:BF} {LR:List As} (he0:w0.ex=none) (ha:∀b,pa.map (·.block)=some b->w0.w.heap.size<=b) (hc:∀b,pc.map (·.block)=some b->w0.w.heap.size<=b) (hW:BI w0 w (rowW tp 71 3 n tc (rowsL Ad us)::AP pa (rowsL AZ ps)::AP pc (rowsL Bb ss)::LR)) :
  Calls prog 28 #[aG [.slice pa ps.length ka,.slice tp n tk,.slice pc ss.length kc]] w (λe w'=>e=.returned (qa (H9 ps us))/\∃u:Unit,True/\BI w0 w' (rowW tp 71 3 n tc (rowsL Ad (FU ps us))::AP pa (rowsL AZ ps)::AP pc (rowsL Bb ss)::LR)):=by
 subst hn
 exact Vu (⟨⟨pa,ka,okA⟩,⟨tp,tk,okB⟩,⟨pc,kc,okC⟩⟩:MN ps us ss) tc hnb htl hN hz ho1 w he0 ha hc hW
set_option maxHeartbeats 1000000 in
theorem XJ {ps:List Pt} {ts:List T3} {ss:List Z3} (x:MN ps ts ss) (hnb:BV ps.length ts=true) (htl:ts.length<=1000000) (hN:ps.length<=1000000) (hsl:ss.length<=1000000) (hz:∀i,Bn (cor ps i)<=200000) (hC:∀(w:World) (S:Nat->Prop),Ro S w x->Calls prog 22 #[(aG (Cb x))] w (Ag w (vN 0))) (h1v:H9 ps ts=true) (h2:H9 ps (FU ps ts)=false) (hnb2:BV ps.length (FU ps ts)=true) (w:World) {S:Nat->Prop} (hx:Ro S w x):Calls prog 7 #[(aG (Cb x))] w (BS (bM ps (FU ps ts) ss 1 0) S w):=by
 have lx:=Db (W:=w) hx
 refine Ak (args:=[(aG (Cb x))]) (L:=[AP x.a.p (rowsL AZ ps),AP x.b.p (rowsL Ad ts),AP x.c.p (rowsL Bb ss)]) func7 O O (BE O) (De hx A_) (zM (sL [0] O) (q4 (BZ (cs:=Cb x) O λb1=>al G_ O λb2=>asg' O (asg' O (q6 (sL [1,2,3,4] O) (q4 (Ai 1 Bg O (C7 call22 (λw hw=>hC w _ (Cd hw 2 O lx)) O (asg' O ?_)))))))))
 refine q3 (sL [1,2,3,4] O) (AM O (AC (Bw (c:=false) O O jY) O (oNl' (zB (sL [1,2,3,4,8] O) (zA (zP O (zC (q2 (Ai 1 Bg O (yK (S:=S) (V:=λa:ZC ps ts ss=>aG (bC a)) (LW:=bD) (args:=[(aG (Cb x))]) call27 (λw hw=>IV x Z Z Z w (Cd hw 2 O lx)) O λcp hcp=>Gc O sizeOf34 O ?_))))))))))
 refine q6 (sL [1,2,3,4] O) (zI (yC 2 (zZ (zY (q4 (Ai 3 Bg O (zz 2 O cp.a.ok (Ac Aq _) O O λhn_cp_a=>zz 0 O cp.c.ok (Ac Cs _) O O λhn_cp_c=>yV (v:=qa true) (α:=Unit) (K:=λ_=>True) (LO:=λ_=>[AP cp.c.p (rowsL Bb ss),rowW cp.b.p 71 3 ts.length cp.b.c (rowsL Ad (FU ps ts)),AP cp.a.p (rowsL AZ ps),AX b2 34 ([(qz cp.a.p ps.length ps.length),(qz cp.b.p ts.length ts.length),(qz cp.c.p ss.length ss.length)]),AX b1 34 (Cb x),AP x.a.p (rowsL AZ ps),AP x.b.p (rowsL Ad ts),AP x.c.p (rowsL Bb ss)]) (AK O) (D_ (args:=[(aG ([(qz cp.a.p ps.length ps.length),(qz cp.b.p ts.length ts.length),(qz cp.c.p ss.length ss.length)]))]) (caps:=[]) (all:=[(aG ([(qz cp.a.p ps.length ps.length),(qz cp.b.p ts.length ts.length),(qz cp.c.p ss.length ss.length)]))]) O O O call28) (DR [1,2,0,3,4,5,6,7] (show List.Perm [1,2,0,3,4,5,6,7] (List.range 8) by decide) O) (λw hw=>(PK (us:=ts) cp.a.p cp.b.p cp.c.p ps.length ts.length ss.length cp.b.c ts.length cp.a.ok.clip cp.b.ok.clip cp.c.ok.clip O hnb htl hN hz cp.b.ok w O hn_cp_a hn_cp_c (LR:=[AX b2 34 ([(qz cp.a.p ps.length ps.length),(qz cp.b.p ts.length ts.length),(qz cp.c.p ss.length ss.length)]),AX b1 34 (Cb x),AP x.a.p (rowsL AZ ps),AP x.b.p (rowsL Ad ts),AP x.c.p (rowsL Bb ss)]) hw).mono λe w' ⟨h1,t,h3,h4⟩=>(by  exact ⟨by rw [h1,h1v],t,h3,h4.perm (DR [2,0,1,3,4,5,6,7] (show List.Perm [2,0,1,3,4,5,6,7] (List.range 8) by decide) O)⟩)) (λd hd=>by cases hd<;>exact (BE O)) λ_ _=>oNl' (zB (sL [1,2,3,4,14] O) ?_))))))))
 refine zA (zV O (zC (zA (zI (zD (AM O (AC (AR (c:=(1:Int)) O O jY) O (asg' O (oNl' (zB (sL [1,2,3,4] O) (zF ?_)))))))))))
 refine zl (zZ (zY (q4 (Ai 3 Bg O (yV (v:=qa false) (α:=Unit) (K:=λ_=>True) (LO:=λ_=>[AP cp.c.p (rowsL Bb ss),rowW cp.b.p 71 3 ts.length cp.b.c (rowsL Ad (FU ps ts)),AP cp.a.p (rowsL AZ ps),AX b2 34 ([(qz cp.a.p ps.length ps.length),(qz cp.b.p ts.length ts.length),(qz cp.c.p ss.length ss.length)]),AX b1 34 (Cb x),AP x.a.p (rowsL AZ ps),AP x.b.p (rowsL Ad ts),AP x.c.p (rowsL Bb ss)]) (AK O) (D_ (args:=[(aG ([(qz cp.a.p ps.length ps.length),(qz cp.b.p ts.length ts.length),(qz cp.c.p ss.length ss.length)]))]) (caps:=[]) (all:=[(aG ([(qz cp.a.p ps.length ps.length),(qz cp.b.p ts.length ts.length),(qz cp.c.p ss.length ss.length)]))]) O O O call28) (DR [1,2,0,3,4,5,6,7] (show List.Perm [1,2,0,3,4,5,6,7] (List.range 8) by decide) O) (λw hw=>(PK (us:=(FU ps ts)) cp.a.p cp.b.p cp.c.p ps.length ts.length ss.length cp.b.c ts.length cp.a.ok.clip cp.b.ok.clip cp.c.ok.clip Ip hnb2 htl hN hz cp.b.ok w O hn_cp_a hn_cp_c (LR:=[AX b2 34 ([(qz cp.a.p ps.length ps.length),(qz cp.b.p ts.length ts.length),(qz cp.c.p ss.length ss.length)]),AX b1 34 (Cb x),AP x.a.p (rowsL AZ ps),AP x.b.p (rowsL Ad ts),AP x.c.p (rowsL Bb ss)]) hw).mono λe w' ⟨h1,t,h3,h4⟩=>(by rw [Vt h2] at h4;exact ⟨by rw [h1,h2],t,h3,h4.perm (DR [2,0,1,3,4,5,6,7] (show List.Perm [2,0,1,3,4,5,6,7] (List.range 8) by decide) O)⟩)) (λd hd=>by cases hd<;>exact (BE O)) λ_ _=>oNl' (zB (sL [1,2,3,4,14] O) (zA (zP O (zU (zO ?_))))))))))
 refine zO (zR (q2 (Ai 3 Bg O (AM O (zz 1 O cp.b.ok (by rw [Ac An,Ip]) O O λhn_cp_b=>Gc O sizeOf34 O (asg' O (asg' O (oNl' (zB (sL [1,2,3,4] O) (zA ?_))))))))))
 exact zH (ER O (Ap (i:=3) (cs:=[(qz cp.a.p ps.length ps.length),(qz cp.b.p ts.length ts.length),(qz cp.c.p ss.length ss.length)]) O O isAgg34 sizeOf34 O) (rd_tmp (v:=(vI 1)) O) (rd_tmp (v:=(vI 0)) O) (λw hw=>(aM hw (a:=(⟨(⟨⟨cp.a.p,ps.length,cp.a.ok.clip⟩,⟨cp.b.p,ts.length,(Ip (ps:=ps) (ts:=ts)).symm▸cp.b.ok.clip⟩,⟨cp.c.p,ss.length,cp.c.ok.clip⟩⟩:MN ps (FU ps ts) ss)⟩:bM ps (FU ps ts) ss 1 0)) (VK hw [2,1,0] O (At.mn (At.new hn_cp_a) (At.new hn_cp_b) (At.new hn_cp_c))) (by show _=Value.tuple #[aG [.slice cp.a.p ps.length ps.length,.slice cp.b.p (FU ps ts).length ts.length,.slice cp.c.p ss.length ss.length],vN 1,vN 0];rw [Ip];rfl))))
end
section
set_option maxRecDepth 100000
theorem NG (p q:Pt) (hp:Bn p<=1000) (hq:Bn q<=1000) (w:World)  :Calls prog 132 #[(aG (AZ p)),(aG (AZ q))] w (Ag w (qa (decide (Va p q)))):=by
 have y1:=FW p
 have y2:=FW q
 have y3:=FY p
 have y4:=FY q
 refine AW (args:=[(aG (AZ p)),(aG (AZ q))]) func132 O O (BE O) (zM (sL [0,1] O) (q4 (BZ (cs:=AZ p) O λb1=>BZ (cs:=AZ q) O λb2=>asg' O (q6 (sL [2,3,4] O) (q4 (AC (v:=(pP b1 0)) (AA O underlying78 O sizeOf68 O) O (Ds 1 (AG p.x) Bf O (AC (v:=(pP b2 0)) (AA O underlying78 O sizeOf68 O) O (Ds 0 (AG q.x) Bf O ?_)))))))))
 refine ck' call20 (Nq p.x q.x Z) O (asg' O (q3 (sL [2,3,4,5] O) (AM O (AC (Bw (c:=(decide ((Fw p.x q.x)≠(0:Int)))) O O O) O (oNl' (zB (sL [2,3,4,5,12] O) (zA ?_)))))))
 refine zL O (λhc0=>?_) (λhc0=>?_)
 ·replace hc0:=xU hc0
  exact q4 (AM O (AC (Aa (c:=(decide ((Fw p.x q.x)<(0:Int)))) O O O) O (asg' O (oNl' (zB (sL [2,3,4,5] O) (zA (zH (zJ (ret_one O (rd_tmp (v:=(qa (decide ((Fw p.x q.x)<(0:Int))))) O) (λw hw=>⟨by rw [Z8 hc0],hw.out⟩))))))))))
 ·replace hc0:=xT hc0
  refine zC (q2 (AC (v:=(pP b1 5)) (AA O underlying78 O sizeOf68 O) O (Ds 1 (AG p.y) Bf O (AC (v:=(pP b2 5)) (AA O underlying78 O sizeOf68 O) O (Ds 0 (AG q.y) Bf O (ck' call20 (Nq p.y q.y Z) O (AC (Aa (c:=(decide ((Fw p.y q.y)<(0:Int)))) O O O) O (asg' O (oNl' (zB (sL [2,3,4,5] O) (zA ?_)))))))))))
  exact zH (ret_one O (rd_tmp (v:=(qa (decide ((Fw p.y q.y)<(0:Int))))) O) (λw hw=>⟨by rw [Z9 (Decidable.not_not.1 hc0)],hw.out⟩))
end
section
set_option maxRecDepth 100000
theorem ZZ (t:T3) (p:Nat) (y:RX (Ad t) 3) (w:World) {S:Nat->Prop} (hy:Ro S w y):Calls prog 186 #[(qz y.p 3 y.c),(vN p)] w (Ag w (vI (VP t p))):=by
 have ly:=Db (W:=w) hy
 refine Ak (args:=[(qz y.p 3 y.c),(vN p)]) (L:=[AP y.p (Ad t)]) func186 O O (BE O) (De hy A_) (zM (sL [0,1] O) (q4 (asg' O (oNl' (q1 (q4 (AM O (AC (v:=(vI 3)) (AE O underlying102) O (AM O (oNl' (zB (sL [0,1,4,7,8] O) ?_)))))))))))
 refine zA (zI (yC 4 (zZ (q4 (AC (Aa (c:=true) O O jY) O (oNl' (q1 (zV O (zC (q1 (zI ?_)))))))))))
 refine q4 (AM O (asg' O (q3 (sL [0,1,4,7,8,5] O) (AM O (AM O (AM O (AC (v:=(pP (pB y.p) (pO y.p+0*1))) (AO (j:=0) O O y.ok underlying102 sizeOf3 O Z) O (AC (Au (v:=(vN t.1)) (i:=0) O O (y.ok.ne Z) BP O) O (AC (BM (c:=(decide (p=t.1))) O O (Mz (a:=p) (b:=t.1))) O (oNl' (zB (sL [0,1,4,7,8,5,16] O) ?_)))))))))))
 refine zA ?_
 refine zL O (λhc1=>?_) (λhc1=>?_)
 ·replace hc1:=xU hc1
  have hr:VP t p=0:=by unfold VP;rw [if_pos hc1]
  exact q4 (AM O (asg' O (oNl' (zB (sL [0,1,4,7,8,5] O) (zA (zH (zS (zJ (zJ (zS (zJ (ret_one O (rd_tmp (v:=(vI 0)) O) (λw hw=>⟨by rw [hr]<;>rfl,hw.out⟩)))))))))))))
 ·replace hc1:=xT hc1
  have k0:=hc1
  refine zC (zF (zA (zD (AC (AR (c:=(1:Int)) O O jY) O (AM O (oNl' (zB (sL [0,1,4,7,8,5] O) (zl (zZ (q4 (AC (Aa (c:=true) O O jY) O ?_)))))))))))
  refine oNl' (q1 (zV O (zC (q1 (zI (q4 (AM O (asg' O (q3 (sL [0,1,4,7,8,5] O) (AM O (AM O ?_)))))))))))
  refine AM O (AC (v:=(pP (pB y.p) (pO y.p+1*1))) (AO (j:=1) O O y.ok underlying102 sizeOf3 O Z) O (AC (Au (v:=(vN t.2.1)) (i:=0) O O (y.ok.ne Z) BP O) O (AC (BM (c:=(decide (p=t.2.1))) O O (Mz (a:=p) (b:=t.2.1))) O (oNl' (zB (sL [0,1,4,7,8,5,16] O) (zA ?_))))))
  refine zL O (λhc1=>?_) (λhc1=>?_)
  ·replace hc1:=xU hc1
   have hr:VP t p=1:=by unfold VP;rw [if_neg k0,if_pos hc1]
   exact q4 (AM O (asg' O (oNl' (zB (sL [0,1,4,7,8,5] O) (zA (zH (zS (zJ (zJ (zS (zJ (ret_one O (rd_tmp (v:=(vI 1)) O) (λw hw=>⟨by rw [hr]<;>rfl,hw.out⟩)))))))))))))
  ·replace hc1:=xT hc1
   have k1:=hc1
   refine zC (zF (zA (zD (AC (AR (c:=(2:Int)) O O jY) O (AM O (oNl' (zB (sL [0,1,4,7,8,5] O) (zl (zZ (q4 (AC (Aa (c:=true) O O jY) O ?_)))))))))))
   refine oNl' (q1 (zV O (zC (q1 (zI (q4 (AM O (asg' O (q3 (sL [0,1,4,7,8,5] O) (AM O (AM O ?_)))))))))))
   refine AM O (AC (v:=(pP (pB y.p) (pO y.p+2*1))) (AO (j:=2) O O y.ok underlying102 sizeOf3 O Z) O (AC (Au (v:=(vN t.2.2)) (i:=0) O O (y.ok.ne Z) BP O) O (AC (BM (c:=(decide (p=t.2.2))) O O (Mz (a:=p) (b:=t.2.2))) O (oNl' (zB (sL [0,1,4,7,8,5,16] O) (zA ?_))))))
   refine zL O (λhc1=>?_) (λhc1=>?_)
   ·replace hc1:=xU hc1
    have hr:VP t p=2:=by unfold VP;rw [if_neg k0,if_neg k1,if_pos hc1]
    exact q4 (AM O (asg' O (oNl' (zB (sL [0,1,4,7,8,5] O) (zA (zH (zS (zJ (zJ (zS (zJ (ret_one O (rd_tmp (v:=(vI 2)) O) (λw hw=>⟨by rw [hr]<;>rfl,hw.out⟩)))))))))))))
   ·replace hc1:=xT hc1
    have k2:=hc1
    have hr:VP t p = -1:=by unfold VP;rw [if_neg k0,if_neg k1,if_neg k2]
    refine zC (zF (zA (zD (AC (AR (c:=(3:Int)) O O jY) O (AM O (oNl' (zB (sL [0,1,4,7,8,5] O) (zl (zZ (q4 (AC (Aa (c:=false) O O jY) O ?_)))))))))))
    refine oNl' (q1 (zP O (zU (zO (zO (zR (q2 (asg' O (oNl' (zB (sL [0,1,4,7,8,5] O) (zA ?_)))))))))))
    exact zH (ret_one O (rd_tmp (v:=(vI (-1:Int))) O) (λw hw=>⟨by rw [hr]<;>rfl,hw.out⟩))
theorem To (t:T3) (p:Nat) (y:RX (Ad t) 3) (w:World) {S:Nat->Prop} (hy:Ro S w y):Calls prog 136 #[(qz y.p 3 y.c),(vN p)] w (Ag w (qa (B_ t p))):=by
 have ly:=Db (W:=w) hy
 refine Ak (args:=[(qz y.p 3 y.c),(vN p)]) (L:=[AP y.p (Ad t)]) func136 O O (BE O) (De hy A_) (zM (sL [0,1] O) (q4 (asg' O (oNl' (q2 (AM O (AM O (C7 call186 (λw hw=>ZZ t p y w (Cd hw 0 O ly)) O (AC (D5 (c:=(B_ t p)) O O (X_ t p)) O (asg' O (oNl' ?_)))))))))))
 exact zB (sL [4] O) (zA (zH (ret_one O (rd_tmp (v:=(qa (B_ t p))) O) (λw hw=>⟨rfl,hw.out⟩))))
theorem Ed (x0:Pt) (x1:Pt) (x2:Pt):Instr.fill (λi=>some (i*10,10)) (ID ((⟨0,0⟩,⟨0,0⟩,⟨0,0⟩):Q3)).toArray [(0,.agg (AZ x0).toArray),(1,.agg (AZ x1).toArray),(2,.agg (AZ x2).toArray)]=some (AZ x0++AZ x1++AZ x2).toArray:=by kernel_rfl
theorem Kw {ps:List Pt} {ts ss:List T3} (x:MX ps ts ss) (t:Nat) (ht:t<ts.length) (htl:ts.length<=1000000) (hp:ps.length<=1000000) (hk:JM ps.length (ts.getD t (0,0,0))=true) (w:World) {S:Nat->Prop} (hx:Ro S w x):Calls prog 134 #[(aG (Ce x)),(vN t)] w (Ag w (aG (ID (Be ps (ts.getD t (0,0,0)))))):=by
 obtain ⟨k1,k2,k3⟩:=DP hk
 obtain ⟨T,hT⟩:∃q,q=ts.getD t (0,0,0):=⟨_,rfl⟩
 rw [<-hT] at k1 k2 k3
 have lx:=Db (W:=w) hx
 refine Ak (args:=[(aG (Ce x)),(vN t)]) (L:=[AP x.a.p (rowsL AZ ps),AP x.b.p (rowsL Ad ts),AP x.c.p (rowsL Ad ss)]) func134 O O (BE O) (De hx A_) (zM (sL [0,1] O) (q4 (BZ (cs:=Ce x) O λb1=>al Wn O λb2=>q3 (sL [1,2,4] O) (AC (v:=(pP b1 1)) (AA O underlying34 O sizeOf28 O) O (BA 1 (qz x.b.p ts.length x.b.c) CM O (AM O (AC (v:=(pP (pB x.b.p) (pO x.b.p+t*3))) (AO (j:=t) O O x.b.ok underlying28 sizeOf71 O Z) O (AC (v:=(aG (Ad (ts.getD t jJ)))) (AI (vs:=Ad (ts.getD t jJ)) (i:=3) O O (Aw.ne x.b.ok Z) Bm (Ae An _ _ _ Z) (An _)) O (zK (k:=10) (u:=(aG (Ad T))) O (by rw [hT]) ?_)))))))))
 refine al Hk O λb3=>Ah O sizeOf71 O (q6 (sL [2,4,5] O) (C_ (Ek 19++[(19,false)]) (sk (sl sr)) (Aj (v:=(pP b1 0)) O (AA O underlying34 O sizeOf32 O) (BK 1 (qz x.a.p ps.length x.a.c) DC O (Aj (v:=(pP b3 0)) O (AB (j:=0) O O underlying71 sizeOf3 O jY O) (BK 0 (vN T.1) BP O (Aj (v:=(pP (pB x.a.p) (pO x.a.p+T.1*10))) O (AO (j:=T.1) O O x.a.ok underlying32 sizeOf78 O Z) (Aj (v:=(aG (AZ (ps.getD T.1 (⟨0,0⟩:Pt))))) O (AI (vs:=AZ (ps.getD T.1 (⟨0,0⟩:Pt))) (i:=2) O O (Aw.ne x.a.ok Z) BC (Ae Aq _ _ _ Z) (Aq _)) (Aj (v:=(pP b1 0)) O (AA O underlying34 O sizeOf32 O) (BK 1 (qz x.a.p ps.length x.a.c) DC O ?_))))))))))
 refine Aj (v:=(pP b3 1)) O (AB (j:=1) O O underlying71 sizeOf3 O jY O) (BK 0 (vN T.2.1) BP O (Aj (v:=(pP (pB x.a.p) (pO x.a.p+T.2.1*10))) O (AO (j:=T.2.1) O O x.a.ok underlying32 sizeOf78 O Z) (Aj (v:=(aG (AZ (ps.getD T.2.1 (⟨0,0⟩:Pt))))) O (AI (vs:=AZ (ps.getD T.2.1 (⟨0,0⟩:Pt))) (i:=2) O O (Aw.ne x.a.ok Z) BC (Ae Aq _ _ _ Z) (Aq _)) (Aj (v:=(pP b1 0)) O (AA O underlying34 O sizeOf32 O) (BK 1 (qz x.a.p ps.length x.a.c) DC O (Aj (v:=(pP b3 2)) O (AB (j:=2) O O underlying71 sizeOf3 O jY O) (BK 0 (vN T.2.2) BP O (Aj (v:=(pP (pB x.a.p) (pO x.a.p+T.2.2*10))) O (AO (j:=T.2.2) O O x.a.ok underlying32 sizeOf78 O Z) (Aj (v:=(aG (AZ (ps.getD T.2.2 (⟨0,0⟩:Pt))))) O (AI (vs:=AZ (ps.getD T.2.2 (⟨0,0⟩:Pt))) (i:=2) O O (Aw.ne x.a.ok Z) BC (Ae Aq _ _ _ Z) (Aq _)) (Aj (v:=(aG (AZ (ps.getD T.1 (⟨0,0⟩:Pt))++AZ (ps.getD T.2.1 (⟨0,0⟩:Pt))++AZ (ps.getD T.2.2 (⟨0,0⟩:Pt))))) O (Af (zs:=ID ((⟨0,0⟩,⟨0,0⟩,⟨0,0⟩):Q3)) (vs:=AZ (ps.getD T.1 (⟨0,0⟩:Pt))++AZ (ps.getD T.2.1 (⟨0,0⟩:Pt))++AZ (ps.getD T.2.2 (⟨0,0⟩:Pt))) (pv:=[(0,(aG (AZ (ps.getD T.1 (⟨0,0⟩:Pt))))),(1,(aG (AZ (ps.getD T.2.1 (⟨0,0⟩:Pt))))),(2,(aG (AZ (ps.getD T.2.2 (⟨0,0⟩:Pt)))))]) zeroValue204 underlying204 sizeOf78 O (Ed (ps.getD T.1 (⟨0,0⟩:Pt)) (ps.getD T.2.1 (⟨0,0⟩:Pt)) (ps.getD T.2.2 (⟨0,0⟩:Pt)))) (zN O ?_)))))))))))
 exact CS O sizeOf204 O (zG (sk (sl sr)) (zQ (zB (sL [2,4,5] O) (zA (zH (ret_one O (Ap (i:=1) (cs:=AZ (ps.getD T.1 (⟨0,0⟩:Pt))++AZ (ps.getD T.2.1 (⟨0,0⟩:Pt))++AZ (ps.getD T.2.2 (⟨0,0⟩:Pt))) O O isAgg204 sizeOf204 O) (λw hw=>⟨by rw [<-hT];unfold Be cor;rw [<-bw],hw.out⟩)))))))
theorem NZ (r p q:Pt) (bp:BX (AZ p)) (bq:BX (AZ q)) (hs:Bn p+Bn q+Bn r<=10000000) (w:World) {S:Nat->Prop} (hbp:Ro S w bp) (hbq:Ro S w bq):Calls prog 185 #[(aG (AZ r)),(pP bp.b 0),(pP bq.b 0)] w (Ag w (qa (MK p q r))):=by
 have lbp:=Db (W:=w) hbp
 have lbq:=Db (W:=w) hbq
 refine Ak (args:=[(aG (AZ r)),(pP bp.b 0),(pP bq.b 0)]) (L:=[AP (some ⟨bp.b,0,none⟩) (AZ p),AP (some ⟨bq.b,0,none⟩) (AZ q)]) func185 O O (BE O) (De hbp (De hbq A_)) (zM (sL [0,1,2] O) (q4 (BZ (cs:=AZ r) O λb1=>asg' O (q3 (sL [1,2,3,4] O) (AC (v:=(aG (AZ p))) (AI (q:=some ⟨bp.b,0,none⟩) (vs:=AZ p) (off:=0) (i:=1) O O (λe=>by cases e) BC O O) O (AC (v:=(aG (AZ q))) (AI (q:=some ⟨bq.b,0,none⟩) (vs:=AZ q) (off:=0) (i:=2) O O (λe=>by cases e) BC O O) O (Ai 0 BC O (ck' call111 (G1 p q r Z) O (AC (D6 (c:=(MK p q r)) O O O) O (asg' O ?_))))))))))
 exact oNl' (zB (sL [4] O) (zA (zH (ret_one O (rd_tmp (v:=(qa (MK p q r))) O) (λw hw=>⟨rfl,hw.out⟩)))))
theorem Z0 (p q:Pt) (B:Q3) (bp:BX (AZ p)) (bq:BX (AZ q)) (bo:BX (ID B)) (hs:Bn p<=1000000/\Bn q<=1000000) (hB:Bn B.1<=1000000/\Bn B.2.1<=1000000/\Bn B.2.2<=1000000) (w:World) {S:Nat->Prop} (hbp:Ro S w bp) (hbq:Ro S w bq) (hbo:Ro S w bo):Calls prog 234 #[(qz (some ⟨bo.b,0,none⟩) 3 3),(Value.func (.func 185) #[] #[(pP bp.b 0),(pP bq.b 0)])] w (Ag w (vI (VO p q B))):=by
 have lbp:=Db (W:=w) hbp
 have lbq:=Db (W:=w) hbq
 have lbo:=Db (W:=w) hbo
 refine Ak (args:=[(qz (some ⟨bo.b,0,none⟩) 3 3),(Value.func (.func 185) #[] #[(pP bp.b 0),(pP bq.b 0)])]) (L:=[AP (some ⟨bp.b,0,none⟩) (AZ p),AP (some ⟨bq.b,0,none⟩) (AZ q),AP (some ⟨bo.b,0,none⟩) (ID B)]) func234 O O (BE O) (De hbp (De hbq (De hbo A_))) (zM (sL [0,1] O) (q4 (asg' O (oNl' (q1 (q4 (AM O (AC (v:=(vI 3)) (AE O underlying32) O (AM O (oNl' (zB (sL [0,1,4,7,8] O) ?_)))))))))))
 refine zA (zI (yC 4 (zZ (q4 (AC (Aa (c:=true) O O jY) O (oNl' (q1 (zV O (zC (q1 (zI ?_)))))))))))
 refine q4 (AM O (asg' O (q3 (sL [0,1,4,7,8,5] O) (AM O (AM O (AM O (AC (v:=(pP bo.b 0)) (AH (j:=0) O O underlying32 sizeOf78 O Z O) O (AC (v:=(aG (AZ B.1))) (AI (q:=some ⟨bo.b,0,none⟩) (vs:=AZ B.1) (off:=0) (i:=2) O O (λe=>by cases e) BC O O) O (zg (v:=(qa (MK p q B.1))) (AK O) (D_ (args:=[(aG (AZ B.1))]) (caps:=[(pP bp.b 0),(pP bq.b 0)]) (all:=[(aG (AZ B.1)),(pP bp.b 0),(pP bq.b 0)]) O O O call185) (λw hw=>NZ B.1 p q bp bq Z w (Cd hw 0 O lbp) (Cd hw 1 O lbq)) O (BE O) (oNl' (zB (sL [0,1,4,7,8,5,16] O) ?_)))))))))))
 refine zA ?_
 refine zL O (λhc1=>?_) (λhc1=>?_)
 ·have hr:VO p q B=0:=by unfold VO;rw [if_pos hc1]
  exact q4 (AM O (asg' O (oNl' (zB (sL [0,1,4,7,8,5] O) (zA (zH (zS (zJ (zJ (zS (zJ (ret_one O (rd_tmp (v:=(vI 0)) O) (λw hw=>⟨by rw [hr]<;>rfl,hw.out⟩)))))))))))))
 ·have k0:¬MK p q B.1=true:=by simpa using hc1
  refine zC (zF (zA (zD (AC (AR (c:=(1:Int)) O O jY) O (AM O (oNl' (zB (sL [0,1,4,7,8,5] O) (zl (zZ (q4 (AC (Aa (c:=true) O O jY) O ?_)))))))))))
  refine oNl' (q1 (zV O (zC (q1 (zI (q4 (AM O (asg' O (q3 (sL [0,1,4,7,8,5] O) (AM O (AM O ?_)))))))))))
  refine AM O (AC (v:=(pP bo.b 10)) (AH (j:=1) O O underlying32 sizeOf78 O Z O) O (AC (v:=(aG (AZ B.2.1))) (AI (q:=some ⟨bo.b,0,none⟩) (vs:=AZ B.2.1) (off:=10) (i:=2) O O (λe=>by cases e) BC O O) O (zg (v:=(qa (MK p q B.2.1))) (AK O) (D_ (args:=[(aG (AZ B.2.1))]) (caps:=[(pP bp.b 0),(pP bq.b 0)]) (all:=[(aG (AZ B.2.1)),(pP bp.b 0),(pP bq.b 0)]) O O O call185) (λw hw=>NZ B.2.1 p q bp bq Z w (Cd hw 0 O lbp) (Cd hw 1 O lbq)) O (BE O) (oNl' (zB (sL [0,1,4,7,8,5,16] O) (zA ?_))))))
  refine zL O (λhc1=>?_) (λhc1=>?_)
  ·have hr:VO p q B=1:=by unfold VO;rw [if_neg k0,if_pos hc1]
   exact q4 (AM O (asg' O (oNl' (zB (sL [0,1,4,7,8,5] O) (zA (zH (zS (zJ (zJ (zS (zJ (ret_one O (rd_tmp (v:=(vI 1)) O) (λw hw=>⟨by rw [hr]<;>rfl,hw.out⟩)))))))))))))
  ·have k1:¬MK p q B.2.1=true:=by simpa using hc1
   refine zC (zF (zA (zD (AC (AR (c:=(2:Int)) O O jY) O (AM O (oNl' (zB (sL [0,1,4,7,8,5] O) (zl (zZ (q4 (AC (Aa (c:=true) O O jY) O ?_)))))))))))
   refine oNl' (q1 (zV O (zC (q1 (zI (q4 (AM O (asg' O (q3 (sL [0,1,4,7,8,5] O) (AM O (AM O ?_)))))))))))
   refine AM O (AC (v:=(pP bo.b 20)) (AH (j:=2) O O underlying32 sizeOf78 O Z O) O (AC (v:=(aG (AZ B.2.2))) (AI (q:=some ⟨bo.b,0,none⟩) (vs:=AZ B.2.2) (off:=20) (i:=2) O O (λe=>by cases e) BC O O) O (zg (v:=(qa (MK p q B.2.2))) (AK O) (D_ (args:=[(aG (AZ B.2.2))]) (caps:=[(pP bp.b 0),(pP bq.b 0)]) (all:=[(aG (AZ B.2.2)),(pP bp.b 0),(pP bq.b 0)]) O O O call185) (λw hw=>NZ B.2.2 p q bp bq Z w (Cd hw 0 O lbp) (Cd hw 1 O lbq)) O (BE O) (oNl' (zB (sL [0,1,4,7,8,5,16] O) (zA ?_))))))
   refine zL O (λhc1=>?_) (λhc1=>?_)
   ·have hr:VO p q B=2:=by unfold VO;rw [if_neg k0,if_neg k1,if_pos hc1]
    exact q4 (AM O (asg' O (oNl' (zB (sL [0,1,4,7,8,5] O) (zA (zH (zS (zJ (zJ (zS (zJ (ret_one O (rd_tmp (v:=(vI 2)) O) (λw hw=>⟨by rw [hr]<;>rfl,hw.out⟩)))))))))))))
   ·have k2:¬MK p q B.2.2=true:=by simpa using hc1
    have hr:VO p q B = -1:=by unfold VO;rw [if_neg k0,if_neg k1,if_neg k2]
    refine zC (zF (zA (zD (AC (AR (c:=(3:Int)) O O jY) O (AM O (oNl' (zB (sL [0,1,4,7,8,5] O) (zl (zZ (q4 (AC (Aa (c:=false) O O jY) O ?_)))))))))))
    refine oNl' (q1 (zP O (zU (zO (zO (zR (q2 (asg' O (oNl' (zB (sL [0,1,4,7,8,5] O) (zA ?_)))))))))))
    exact zH (ret_one O (rd_tmp (v:=(vI (-1:Int))) O) (λw hw=>⟨by rw [hr]<;>rfl,hw.out⟩))
theorem N4 (p q:Pt) (B:Q3) (bp:BX (AZ p)) (bq:BX (AZ q)) (bo:BX (ID B)) (hs:Bn p<=1000000/\Bn q<=1000000) (hB:Bn B.1<=1000000/\Bn B.2.1<=1000000/\Bn B.2.2<=1000000) (w:World) {S:Nat->Prop} (hbp:Ro S w bp) (hbq:Ro S w bq) (hbo:Ro S w bo):Calls prog 184 #[(qz (some ⟨bo.b,0,none⟩) 3 3),(Value.func (.func 185) #[] #[(pP bp.b 0),(pP bq.b 0)])] w (Ag w (qa (Fk p q B))):=by
 have lbp:=Db (W:=w) hbp
 have lbq:=Db (W:=w) hbq
 have lbo:=Db (W:=w) hbo
 refine Ak (args:=[(qz (some ⟨bo.b,0,none⟩) 3 3),(Value.func (.func 185) #[] #[(pP bp.b 0),(pP bq.b 0)])]) (L:=[AP (some ⟨bp.b,0,none⟩) (AZ p),AP (some ⟨bq.b,0,none⟩) (AZ q),AP (some ⟨bo.b,0,none⟩) (ID B)]) func184 O O (BE O) (De hbp (De hbq (De hbo A_))) (zM (sL [0,1] O) (q4 (asg' O (oNl' (q2 (AM O (AM O (C7 call234 (λw hw=>Z0 p q B bp bq bo hs hB w (Cd hw 0 O lbp) (Cd hw 1 O lbq) (Cd hw 2 O lbo)) O (AC (D5 (c:=(Fk p q B)) O O (X9 p q B)) O (asg' O (oNl' ?_)))))))))))
 exact zB (sL [4] O) (zA (zH (ret_one O (rd_tmp (v:=(qa (Fk p q B))) O) (λw hw=>⟨rfl,hw.out⟩))))
set_option maxHeartbeats 1000000 in
theorem UQ (A B:Q3) (hA:Bn A.1<=1000000/\Bn A.2.1<=1000000/\Bn A.2.2<=1000000) (hB:Bn B.1<=1000000/\Bn B.2.1<=1000000/\Bn B.2.2<=1000000) (w:World)  :Calls prog 135 #[(aG (ID A)),(aG (ID B))] w (Ag w (qa (Dy A B))):=by
 refine AW (args:=[(aG (ID A)),(aG (ID B))]) func135 O O (BE O) (zM (sL [0,1] O) (q4 (BZ (cs:=ID A) O λb1=>BZ (cs:=ID B) O λb2=>yM 0 O O λhnb2=>asg' O (q6 (sL [2,3,4] O) (q4 (AM O (oNl' (zA ?_))))))))
 refine zI (yC 4 (zZ (q4 (AC (Aa (c:=true) O O jY) O (oNl' (q1 (zV O (zC (q1 (zI (q4 ?_)))))))))))
 refine AM O (asg' O (q6 (sL [2,3,4,8,5] O) (rN [(0,true),(1,true),(2,true),(3,true),(4,true),(5,true),(6,true),(7,true)] [⟨8,6,78,AZ (⟨0,0⟩:Pt)⟩,⟨9,7,78,AZ (⟨0,0⟩:Pt)⟩] [(10,false),(11,false)] sr jV (λ_ _ d _ _ h=>by cases d<;>exact h) (FL O O Ep O (FL O O Ep O (Hj))) O (Qy O (GA (v:=(pP b1 0)) O (AB (j:=0) O O underlying204 sizeOf78 O jY O) O (Wv 1 (AZ A.1) BC O (Qy O (GA O (AR (c:=(1:Int)) O O jY) O (GA O (B7 (c:=(1:Int)) O O jY jY) O (GA (v:=(pP b1 10)) O (AB (j:=1) O O underlying204 sizeOf78 O jY O) O (Wv 1 (AZ A.2.1) BC O ?_)))))))))))
 refine yW λb3 b4=>zN O (Ah O sizeOf78 O (zG (sl (sl sr)) (zN O (CS O sizeOf78 O (zG (sl (sl sr)) (zQ (zB (sL [2,3,4,8,7,6] O) (q2 (AC (v:=(qz (jk b2) 3 3)) (FE O underlying204 sizeOf78 jY) O (yM 0 O O λhnb3=>?_))))))))))
 refine yM 1 O O λhnb4=>AC (v:=(Value.func (.func 185) #[] #[(pP b3 0),(pP b4 0)])) (Dw (vs:=[]) (us:=[(pP b3 0),(pP b4 0)]) O O) O (C7 call184 (λw hw=>N4 A.1 A.2.1 B ⟨b3⟩ ⟨b4⟩ ⟨b2⟩ Z hB w (VI (S:=λ_=>False) (x:=(⟨b3⟩:BX (AZ A.1))) hw 0 O hnb3) (VI (S:=λ_=>False) (x:=(⟨b4⟩:BX (AZ A.2.1))) hw 1 O hnb4) (VI (S:=λ_=>False) (x:=(⟨b2⟩:BX (ID B))) hw 2 O hnb2)) O (AC (BG (c:=(!(Fk A.1 A.2.1 B))) O O) O (oNl' (zB (sL [2,3,4,8,7,6,22] O) (zA ?_)))))
 refine zL O (λhc1=>?_) (λhc1=>?_)
 ·simp only [jK] at hc1
  have hr:Dy A B=true:=by unfold Dy;rw [(by simpa using hc1:Fk A.1 A.2.1 B=false)];simp
  exact q4 (asg' O (oNl' (zA (zH (zS (zJ (zJ (zS (zJ (ret_one O (rd_tmp (v:=(qa true)) O) (λw hw=>⟨by rw [hr],hw.out⟩)))))))))))
 ·simp only [jK] at hc1
  have k0:Fk A.1 A.2.1 B=true:=by simpa using hc1
  refine zC (zF (zA (zD (AC (AR (c:=(1:Int)) O O jY) O (AM O (oNl' (zB (sL [2,3,4,8,7,6] O) (zl (zZ (q4 (AC (Aa (c:=true) O O jY) O ?_)))))))))))
  refine oNl' (q1 (zV O (zC (q1 (zI (q4 (AM O (asg' O (q6 (sL [2,3,4,8,7,6,5] O) (zM (sL [2,3,4,8,5] O) (rN [(0,true),(1,true),(2,true),(3,true),(4,true),(5,true),(6,true),(7,true)] [⟨8,6,78,AZ (⟨0,0⟩:Pt)⟩,⟨9,7,78,AZ (⟨0,0⟩:Pt)⟩] [(10,false),(11,false)] sr jV (λ_ _ d _ _ h=>by cases d<;>exact h) (FL O O Ep O (FL O O Ep O (Hj))) O ?_)))))))))))
  refine Qy O (GA (v:=(pP b1 10)) O (AB (j:=1) O O underlying204 sizeOf78 O jY O) O (Wv 3 (AZ A.2.1) BC O (Qy O (GA O (AR (c:=(2:Int)) O O jY) O (GA O (B7 (c:=(2:Int)) O O jY jY) O (GA (v:=(pP b1 20)) O (AB (j:=2) O O underlying204 sizeOf78 O jY O) O (Wv 3 (AZ A.2.2) BC O (yW λb5 b6=>zN O (Ah O sizeOf78 O (zG (sl (sl sr)) ?_))))))))))
  refine zN O (CS O sizeOf78 O (zG (sl (sl sr)) (zQ (zB (sL [2,3,4,8,7,6] O) (q2 (AC (v:=(qz (jk b2) 3 3)) (FE O underlying204 sizeOf78 jY) O (yM 0 O O λhnb5=>yM 1 O O λhnb6=>AC (v:=(Value.func (.func 185) #[] #[(pP b5 0),(pP b6 0)])) (Dw (vs:=[]) (us:=[(pP b5 0),(pP b6 0)]) O O) O (C7 call184 (λw hw=>N4 A.2.1 A.2.2 B ⟨b5⟩ ⟨b6⟩ ⟨b2⟩ Z hB w (VI (S:=λ_=>False) (x:=(⟨b5⟩:BX (AZ A.2.1))) hw 0 O hnb5) (VI (S:=λ_=>False) (x:=(⟨b6⟩:BX (AZ A.2.2))) hw 1 O hnb6) (VI (S:=λ_=>False) (x:=(⟨b2⟩:BX (ID B))) hw 4 O hnb2)) O (AC (BG (c:=(!(Fk A.2.1 A.2.2 B))) O O) O ?_)))))))))
  refine oNl' (zB (sL [2,3,4,8,7,6,22] O) (zA ?_))
  refine zL O (λhc1=>?_) (λhc1=>?_)
  ·simp only [jK] at hc1
   have hr:Dy A B=true:=by unfold Dy;rw [k0,(by simpa using hc1:Fk A.2.1 A.2.2 B=false)];simp
   exact q4 (asg' O (oNl' (zA (zH (zS (zJ (zJ (zS (zJ (ret_one O (rd_tmp (v:=(qa true)) O) (λw hw=>⟨by rw [hr],hw.out⟩)))))))))))
  ·simp only [jK] at hc1
   have k1:Fk A.2.1 A.2.2 B=true:=by simpa using hc1
   refine zC (zF (zA (zD (AC (AR (c:=(2:Int)) O O jY) O (AM O (oNl' (zB (sL [2,3,4,8,7,6] O) (zl (zZ (q4 (AC (Aa (c:=true) O O jY) O ?_)))))))))))
   refine oNl' (q1 (zV O (zC (q1 (zI (q4 (AM O (asg' O (q6 (sL [2,3,4,8,7,6,5] O) (zM (sL [2,3,4,8,5] O) (rN [(0,true),(1,true),(2,true),(3,true),(4,true),(5,true),(6,true),(7,true)] [⟨8,6,78,AZ (⟨0,0⟩:Pt)⟩,⟨9,7,78,AZ (⟨0,0⟩:Pt)⟩] [(10,false),(11,false)] sr jV (λ_ _ d _ _ h=>by cases d<;>exact h) (FL O O Ep O (FL O O Ep O (Hj))) O ?_)))))))))))
   refine Qy O (GA (v:=(pP b1 20)) O (AB (j:=2) O O underlying204 sizeOf78 O jY O) O (Wv 5 (AZ A.2.2) BC O (Qy O (GA O (AR (c:=(3:Int)) O O jY) O (GA O (B7 (c:=(0:Int)) O O jY jY) O (GA (v:=(pP b1 0)) O (AB (j:=0) O O underlying204 sizeOf78 O jY O) O (Wv 5 (AZ A.1) BC O (yW λb7 b8=>zN O (Ah O sizeOf78 O (zG (sl (sl sr)) ?_))))))))))
   refine zN O (CS O sizeOf78 O (zG (sl (sl sr)) (zQ (zB (sL [2,3,4,8,7,6] O) (q2 (AC (v:=(qz (jk b2) 3 3)) (FE O underlying204 sizeOf78 jY) O (yM 0 O O λhnb7=>yM 1 O O λhnb8=>AC (v:=(Value.func (.func 185) #[] #[(pP b7 0),(pP b8 0)])) (Dw (vs:=[]) (us:=[(pP b7 0),(pP b8 0)]) O O) O (C7 call184 (λw hw=>N4 A.2.2 A.1 B ⟨b7⟩ ⟨b8⟩ ⟨b2⟩ Z hB w (VI (S:=λ_=>False) (x:=(⟨b7⟩:BX (AZ A.2.2))) hw 0 O hnb7) (VI (S:=λ_=>False) (x:=(⟨b8⟩:BX (AZ A.1))) hw 1 O hnb8) (VI (S:=λ_=>False) (x:=(⟨b2⟩:BX (ID B))) hw 6 O hnb2)) O (AC (BG (c:=(!(Fk A.2.2 A.1 B))) O O) O ?_)))))))))
   refine oNl' (zB (sL [2,3,4,8,7,6,22] O) (zA ?_))
   refine zL O (λhc1=>?_) (λhc1=>?_)
   ·simp only [jK] at hc1
    have hr:Dy A B=true:=by unfold Dy;rw [k0,k1,(by simpa using hc1:Fk A.2.2 A.1 B=false)];simp
    exact q4 (asg' O (oNl' (zA (zH (zS (zJ (zJ (zS (zJ (ret_one O (rd_tmp (v:=(qa true)) O) (λw hw=>⟨by rw [hr],hw.out⟩)))))))))))
   ·simp only [jK] at hc1
    have k2:Fk A.2.2 A.1 B=true:=by simpa using hc1
    have hr:Dy A B=false:=by unfold Dy;rw [k0,k1,k2];rfl
    refine zC (zF (zA (zD (AC (AR (c:=(3:Int)) O O jY) O (AM O (oNl' (zB (sL [2,3,4,8,7,6] O) (zl (zZ (q4 (AC (Aa (c:=false) O O jY) O ?_)))))))))))
    refine oNl' (q1 (zP O (zU (zO (zO (zR (q2 (asg' O (oNl' (zB (sL [2,3,4,8,7,6] O) (zA ?_)))))))))))
    exact zH (ret_one O (rd_tmp (v:=(qa false)) O) (λw hw=>⟨by rw [hr],hw.out⟩))
end
end Go.Proofs.YtbfdamnfcmefmaaGreatDoor
