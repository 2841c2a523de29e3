import Derived.Test.YtbfdamnfcmefmaaGreatDoorPend35
namespace Go.Proofs.YtbfdamnfcmefmaaGreatDoor
open Go Go.RowKit Go.Proofs.Tryz
open Go.Value renaming slice→qz,bool→qa
set_option linter.unusedVariables false
set_option linter.unusedSimpArgs false
section
set_option maxRecDepth 100000
theorem La {ps:List Pt} {us:List T3} {ss:List Z3} (pa tp pc:Option Addr) (ka tk kc tc n:Nat) (okA:A8 pa ps.length ka) (okB:A8 tp n tk) (okC:A8 pc ss.length kc) (hn:us.length=n) (hnb:Ba ps.length us=true) (htl:n<=1000000) (hN:ps.length<=1000000) (hz:∀i,Bl (cor ps i)<=200000) (ho1:OwnOk tp n tc) (w:World) {w0:BD} {LR:List As} (he0:w0.ex=none) (ha:∀b,pa.map (·.block)=some b->w0.w.heap.size<=b) (hc:∀b,pc.map (·.block)=some b->w0.w.heap.size<=b) (hW:BH w0 w (rowW tp 71 3 n tc (rowsL Af us)::AN pa (rowsL Aa ps)::AN pc (rowsL BU ss)::LR)) :
  Calls prog 28 #[aG [.slice pa ps.length ka,.slice tp n tk,.slice pc ss.length kc]] w (λe w'=>e=.returned (qa (nexV ps us))/\∃u:Unit,True/\BH w0 w' (rowW tp 71 3 n tc (rowsL Af (Cj ps us))::AN pa (rowsL Aa ps)::AN pc (rowsL BU ss)::LR)):=by
 subst hn
 exact Vy (⟨⟨pa,ka,okA⟩,⟨tp,tk,okB⟩,⟨pc,kc,okC⟩⟩:MN ps us ss) tc hnb htl hN hz ho1 w he0 ha hc hW
set_option maxHeartbeats 1000000 in
theorem XO {ps:List Pt} {ts:List T3} {ss:List Z3} (x:MN ps ts ss) (hnb:Ba ps.length ts=true) (htl:ts.length<=1000000) (hN:ps.length<=1000000) (hsl:ss.length<=1000000) (hz:∀i,Bl (cor ps i)<=200000) (hC:∀(w:World) (S:Nat->Prop),Ro S w x->Calls prog 22 #[(aG (CG x))] w (Ac w (vN 0))) (h1v:nexV ps ts=true) (h2:nexV ps (Cj ps ts)=false) (hnb2:Ba ps.length (Cj ps ts)=true) (w:World) {S:Nat->Prop} (hx:Ro S w x):Calls prog 7 #[(aG (CG x))] w (BP (DlN ps (Cj ps ts) ss 1 0) S w):=by
 have lx:=DT (W:=w) hx
 refine Ag (args:=[(aG (CG x))]) (L:=[AN x.a.p (rowsL Aa ps),AN x.b.p (rowsL Af ts),AN x.c.p (rowsL BU ss)]) func7 O O (A_ O) (DU hx Az) (zM (sL [0] O) (q4 (BV (cs:=CG x) O λb1=>al G6 O λb2=>asg' O (asg' O (q6 (sL [1,2,3,4] O) (q4 (Ak 1 BY O (C3 call22 (λw hw=>hC w _ (CL hw 2 O lx)) O (asg' O ?_)))))))))
 refine q3 (sL [1,2,3,4] O) (AL O (AD (Bv (c:=false) O O jY) O (oNl' (zB (sL [1,2,3,4,8] O) (zA (zS O (zC (q2 (Ak 1 BY O (yH (S:=S) (V:=λa:XN ps ts ss=>aG (Zw a)) (LW:=Zx) (args:=[(aG (CG x))]) call27 (λw hw=>Gh x Z Z Z w (CL hw 2 O lx)) O λcp hcp=>Fi O sizeOf34 O ?_))))))))))
 refine q6 (sL [1,2,3,4] O) (zI (yD 2 (zZ (zX (q4 (Ak 3 BY O (zx 2 O cp.a.ok (AZ Ap _) O O λhn_cp_a=>zx 0 O cp.c.ok (AZ Ce _) O O λhn_cp_c=>yS (v:=qa true) (α:=Unit) (K:=λ_=>True) (LO:=λ_=>[AN cp.c.p (rowsL BU ss),rowW cp.b.p 71 3 ts.length cp.b.c (rowsL Af (Cj ps ts)),AN cp.a.p (rowsL Aa ps),AY b2 34 ([(qz cp.a.p ps.length ps.length),(qz cp.b.p ts.length ts.length),(qz cp.c.p ss.length ss.length)]),AY b1 34 (CG x),AN x.a.p (rowsL Aa ps),AN x.b.p (rowsL Af ts),AN x.c.p (rowsL BU ss)]) (AI O) (Dn (args:=[(aG ([(qz cp.a.p ps.length ps.length),(qz cp.b.p ts.length ts.length),(qz cp.c.p ss.length ss.length)]))]) (caps:=[]) (all:=[(aG ([(qz cp.a.p ps.length ps.length),(qz cp.b.p ts.length ts.length),(qz cp.c.p ss.length ss.length)]))]) O O O call28) (Cv [1,2,0,3,4,5,6,7] (show List.Perm [1,2,0,3,4,5,6,7] (List.range 8) by decide) O) (λw hw=>(La (us:=ts) cp.a.p cp.b.p cp.c.p ps.length ts.length ss.length cp.b.c ts.length cp.a.ok.clip cp.b.ok.clip cp.c.ok.clip O hnb htl hN hz cp.b.ok w O hn_cp_a hn_cp_c (LR:=[AY b2 34 ([(qz cp.a.p ps.length ps.length),(qz cp.b.p ts.length ts.length),(qz cp.c.p ss.length ss.length)]),AY b1 34 (CG x),AN x.a.p (rowsL Aa ps),AN x.b.p (rowsL Af ts),AN x.c.p (rowsL BU ss)]) hw).mono λe w' ⟨h1,t,h3,h4⟩=>(by  exact ⟨by rw [h1,h1v],t,h3,h4.perm (Cv [2,0,1,3,4,5,6,7] (show List.Perm [2,0,1,3,4,5,6,7] (List.range 8) by decide) O)⟩)) (λd hd=>by cases hd<;>exact (A_ O)) λ_ _=>oNl' (zB (sL [1,2,3,4,14] O) ?_))))))))
 refine zA (zV O (zC (zA (zI (zH (AL O (AD (AS (c:=(1:Int)) O O jY) O (asg' O (oNl' (zB (sL [1,2,3,4] O) (zF ?_)))))))))))
 refine zk (zZ (zX (q4 (Ak 3 BY O (yS (v:=qa false) (α:=Unit) (K:=λ_=>True) (LO:=λ_=>[AN cp.c.p (rowsL BU ss),rowW cp.b.p 71 3 ts.length cp.b.c (rowsL Af (Cj ps ts)),AN cp.a.p (rowsL Aa ps),AY b2 34 ([(qz cp.a.p ps.length ps.length),(qz cp.b.p ts.length ts.length),(qz cp.c.p ss.length ss.length)]),AY b1 34 (CG x),AN x.a.p (rowsL Aa ps),AN x.b.p (rowsL Af ts),AN x.c.p (rowsL BU ss)]) (AI O) (Dn (args:=[(aG ([(qz cp.a.p ps.length ps.length),(qz cp.b.p ts.length ts.length),(qz cp.c.p ss.length ss.length)]))]) (caps:=[]) (all:=[(aG ([(qz cp.a.p ps.length ps.length),(qz cp.b.p ts.length ts.length),(qz cp.c.p ss.length ss.length)]))]) O O O call28) (Cv [1,2,0,3,4,5,6,7] (show List.Perm [1,2,0,3,4,5,6,7] (List.range 8) by decide) O) (λw hw=>(La (us:=(Cj ps ts)) cp.a.p cp.b.p cp.c.p ps.length ts.length ss.length cp.b.c ts.length cp.a.ok.clip cp.b.ok.clip cp.c.ok.clip FN hnb2 htl hN hz cp.b.ok w O hn_cp_a hn_cp_c (LR:=[AY b2 34 ([(qz cp.a.p ps.length ps.length),(qz cp.b.p ts.length ts.length),(qz cp.c.p ss.length ss.length)]),AY b1 34 (CG x),AN x.a.p (rowsL Aa ps),AN x.b.p (rowsL Af ts),AN x.c.p (rowsL BU ss)]) hw).mono λe w' ⟨h1,t,h3,h4⟩=>(by rw [PK h2] at h4;exact ⟨by rw [h1,h2],t,h3,h4.perm (Cv [2,0,1,3,4,5,6,7] (show List.Perm [2,0,1,3,4,5,6,7] (List.range 8) by decide) O)⟩)) (λd hd=>by cases hd<;>exact (A_ O)) λ_ _=>oNl' (zB (sL [1,2,3,4,14] O) (zA (zS O (zU (zO ?_))))))))))
 refine zO (zP (q2 (Ak 3 BY O (AL O (zx 1 O cp.b.ok (by rw [AZ Av,FN]) O O λhn_cp_b=>Fi O sizeOf34 O (asg' O (asg' O (oNl' (zB (sL [1,2,3,4] O) (zA ?_))))))))))
 exact zG (Du O (An (i:=3) (cs:=[(qz cp.a.p ps.length ps.length),(qz cp.b.p ts.length ts.length),(qz cp.c.p ss.length ss.length)]) O O isAgg34 sizeOf34 O) (rd_tmp (v:=(vI 1)) O) (rd_tmp (v:=(vI 0)) O) (λw hw=>(retR hw (a:=(⟨(⟨⟨cp.a.p,ps.length,cp.a.ok.clip⟩,⟨cp.b.p,ts.length,(FN (ps:=ps) (ts:=ts)).symm▸cp.b.ok.clip⟩,⟨cp.c.p,ss.length,cp.c.ok.clip⟩⟩:MN ps (Cj ps ts) ss)⟩:DlN ps (Cj ps ts) ss 1 0)) (inX hw [2,1,0] O (At.mn (At.new hn_cp_a) (At.new hn_cp_b) (At.new hn_cp_c))) (by show _=Value.tuple #[aG [.slice cp.a.p ps.length ps.length,.slice cp.b.p (Cj ps ts).length ts.length,.slice cp.c.p ss.length ss.length],vN 1,vN 0];rw [FN];rfl))))
end
section
set_option maxRecDepth 100000
theorem ND (p q:Pt) (hp:Bl p<=1000) (hq:Bl q<=1000) (w:World)  :Calls prog 132 #[(aG (Aa p)),(aG (Aa q))] w (Ac w (qa (decide (Vd p q)))):=by
 have y1:=FZ p
 have y2:=FZ q
 have y3:=Fa p
 have y4:=Fa q
 refine AW (args:=[(aG (Aa p)),(aG (Aa q))]) func132 O O (A_ O) (zM (sL [0,1] O) (q4 (BV (cs:=Aa p) O λb1=>BV (cs:=Aa q) O λb2=>asg' O (q6 (sL [2,3,4] O) (q4 (AD (v:=(pP b1 0)) (AA O underlying78 O sizeOf68 O) O (Dp 1 (AF p.x) Be O (AD (v:=(pP b2 0)) (AA O underlying78 O sizeOf68 O) O (Dp 0 (AF q.x) Be O ?_)))))))))
 refine ck' call20 (Nq p.x q.x Z) O (asg' O (q3 (sL [2,3,4,5] O) (AL O (AD (Bv (c:=(decide ((FV p.x q.x)≠(0:Int)))) O O O) O (oNl' (zB (sL [2,3,4,5,12] O) (zA ?_)))))))
 refine zK O (λhc0=>?_) (λhc0=>?_)
 ·replace hc0:=xT hc0
  exact q4 (AL O (AD (Ab (c:=(decide ((FV p.x q.x)<(0:Int)))) O O O) O (asg' O (oNl' (zB (sL [2,3,4,5] O) (zA (zG (zJ (ret_one O (rd_tmp (v:=(qa (decide ((FV p.x q.x)<(0:Int))))) O) (λw hw=>⟨by rw [aL hc0],hw.out⟩))))))))))
 ·replace hc0:=xS hc0
  refine zC (q2 (AD (v:=(pP b1 5)) (AA O underlying78 O sizeOf68 O) O (Dp 1 (AF p.y) Be O (AD (v:=(pP b2 5)) (AA O underlying78 O sizeOf68 O) O (Dp 0 (AF q.y) Be O (ck' call20 (Nq p.y q.y Z) O (AD (Ab (c:=(decide ((FV p.y q.y)<(0:Int)))) O O O) O (asg' O (oNl' (zB (sL [2,3,4,5] O) (zA ?_)))))))))))
  exact zG (ret_one O (rd_tmp (v:=(qa (decide ((FV p.y q.y)<(0:Int))))) O) (λw hw=>⟨by rw [aM (Decidable.not_not.1 hc0)],hw.out⟩))
end
section
set_option maxRecDepth 100000
theorem Zg (t:T3) (p:Nat) (y:RX (Af t) 3) (w:World) {S:Nat->Prop} (hy:Ro S w y):Calls prog 186 #[(qz y.p 3 y.c),(vN p)] w (Ac w (vI (VS t p))):=by
 have ly:=DT (W:=w) hy
 refine Ag (args:=[(qz y.p 3 y.c),(vN p)]) (L:=[AN y.p (Af t)]) func186 O O (A_ O) (DU hy Az) (zM (sL [0,1] O) (q4 (asg' O (oNl' (q1 (q4 (AL O (AD (v:=(vI 3)) (AE O underlying102) O (AL O (oNl' (zB (sL [0,1,4,7,8] O) ?_)))))))))))
 refine zA (zI (yD 4 (zZ (q4 (AD (Ab (c:=true) O O jY) O (oNl' (q1 (zV O (zC (q1 (zI ?_)))))))))))
 refine q4 (AL O (asg' O (q3 (sL [0,1,4,7,8,5] O) (AL O (AL O (AL O (AD (v:=(pP (pB y.p) (pO y.p+0*1))) (AO (j:=0) O O y.ok underlying102 sizeOf3 O Z) O (AD (BA (v:=(vN t.1)) (i:=0) O O (y.ok.ne Z) Bk O) O (AD (BM (c:=(decide (p=t.1))) O O (O5 (a:=p) (b:=t.1))) O (oNl' (zB (sL [0,1,4,7,8,5,16] O) ?_)))))))))))
 refine zA ?_
 refine zK O (λhc1=>?_) (λhc1=>?_)
 ·replace hc1:=xT hc1
  have hr:VS t p=0:=by unfold VS;rw [if_pos hc1]
  exact q4 (AL O (asg' O (oNl' (zB (sL [0,1,4,7,8,5] O) (zA (zG (zR (zJ (zJ (zR (zJ (ret_one O (rd_tmp (v:=(vI 0)) O) (λw hw=>⟨by rw [hr]<;>rfl,hw.out⟩)))))))))))))
 ·replace hc1:=xS hc1
  have k0:=hc1
  refine zC (zF (zA (zH (AD (AS (c:=(1:Int)) O O jY) O (AL O (oNl' (zB (sL [0,1,4,7,8,5] O) (zk (zZ (q4 (AD (Ab (c:=true) O O jY) O ?_)))))))))))
  refine oNl' (q1 (zV O (zC (q1 (zI (q4 (AL O (asg' O (q3 (sL [0,1,4,7,8,5] O) (AL O (AL O ?_)))))))))))
  refine AL O (AD (v:=(pP (pB y.p) (pO y.p+1*1))) (AO (j:=1) O O y.ok underlying102 sizeOf3 O Z) O (AD (BA (v:=(vN t.2.1)) (i:=0) O O (y.ok.ne Z) Bk O) O (AD (BM (c:=(decide (p=t.2.1))) O O (O5 (a:=p) (b:=t.2.1))) O (oNl' (zB (sL [0,1,4,7,8,5,16] O) (zA ?_))))))
  refine zK O (λhc1=>?_) (λhc1=>?_)
  ·replace hc1:=xT hc1
   have hr:VS t p=1:=by unfold VS;rw [if_neg k0,if_pos hc1]
   exact q4 (AL O (asg' O (oNl' (zB (sL [0,1,4,7,8,5] O) (zA (zG (zR (zJ (zJ (zR (zJ (ret_one O (rd_tmp (v:=(vI 1)) O) (λw hw=>⟨by rw [hr]<;>rfl,hw.out⟩)))))))))))))
  ·replace hc1:=xS hc1
   have k1:=hc1
   refine zC (zF (zA (zH (AD (AS (c:=(2:Int)) O O jY) O (AL O (oNl' (zB (sL [0,1,4,7,8,5] O) (zk (zZ (q4 (AD (Ab (c:=true) O O jY) O ?_)))))))))))
   refine oNl' (q1 (zV O (zC (q1 (zI (q4 (AL O (asg' O (q3 (sL [0,1,4,7,8,5] O) (AL O (AL O ?_)))))))))))
   refine AL O (AD (v:=(pP (pB y.p) (pO y.p+2*1))) (AO (j:=2) O O y.ok underlying102 sizeOf3 O Z) O (AD (BA (v:=(vN t.2.2)) (i:=0) O O (y.ok.ne Z) Bk O) O (AD (BM (c:=(decide (p=t.2.2))) O O (O5 (a:=p) (b:=t.2.2))) O (oNl' (zB (sL [0,1,4,7,8,5,16] O) (zA ?_))))))
   refine zK O (λhc1=>?_) (λhc1=>?_)
   ·replace hc1:=xT hc1
    have hr:VS t p=2:=by unfold VS;rw [if_neg k0,if_neg k1,if_pos hc1]
    exact q4 (AL O (asg' O (oNl' (zB (sL [0,1,4,7,8,5] O) (zA (zG (zR (zJ (zJ (zR (zJ (ret_one O (rd_tmp (v:=(vI 2)) O) (λw hw=>⟨by rw [hr]<;>rfl,hw.out⟩)))))))))))))
   ·replace hc1:=xS hc1
    have k2:=hc1
    have hr:VS t p = -1:=by unfold VS;rw [if_neg k0,if_neg k1,if_neg k2]
    refine zC (zF (zA (zH (AD (AS (c:=(3:Int)) O O jY) O (AL O (oNl' (zB (sL [0,1,4,7,8,5] O) (zk (zZ (q4 (AD (Ab (c:=false) O O jY) O ?_)))))))))))
    refine oNl' (q1 (zS O (zU (zO (zO (zP (q2 (asg' O (oNl' (zB (sL [0,1,4,7,8,5] O) (zA ?_)))))))))))
    exact zG (ret_one O (rd_tmp (v:=(vI (-1:Int))) O) (λw hw=>⟨by rw [hr]<;>rfl,hw.out⟩))
theorem To (t:T3) (p:Nat) (y:RX (Af t) 3) (w:World) {S:Nat->Prop} (hy:Ro S w y):Calls prog 136 #[(qz y.p 3 y.c),(vN p)] w (Ac w (qa (B4 t p))):=by
 have ly:=DT (W:=w) hy
 refine Ag (args:=[(qz y.p 3 y.c),(vN p)]) (L:=[AN y.p (Af t)]) func136 O O (A_ O) (DU hy Az) (zM (sL [0,1] O) (q4 (asg' O (oNl' (q2 (AL O (AL O (C3 call186 (λw hw=>Zg t p y w (CL hw 0 O ly)) O (AD (D1 (c:=(B4 t p)) O O (YL t p)) O (asg' O (oNl' ?_)))))))))))
 exact zB (sL [4] O) (zA (zG (ret_one O (rd_tmp (v:=(qa (B4 t p))) O) (λw hw=>⟨rfl,hw.out⟩))))
theorem EW (x0:Pt) (x1:Pt) (x2:Pt):Instr.fill (λi=>some (i*10,10)) (H8 ((⟨0,0⟩,⟨0,0⟩,⟨0,0⟩):Q3)).toArray [(0,.agg (Aa x0).toArray),(1,.agg (Aa x1).toArray),(2,.agg (Aa x2).toArray)]=some (Aa x0++Aa x1++Aa x2).toArray:=by kernel_rfl
theorem Ks {ps:List Pt} {ts ss:List T3} (x:MX ps ts ss) (t:Nat) (ht:t<ts.length) (htl:ts.length<=1000000) (hp:ps.length<=1000000) (hk:Ig ps.length (ts.getD t (0,0,0))=true) (w:World) {S:Nat->Prop} (hx:Ro S w x):Calls prog 134 #[(aG (Cf x)),(vN t)] w (Ac w (aG (H8 (Bd ps (ts.getD t (0,0,0)))))):=by
 obtain ⟨k1,k2,k3⟩:=Ct hk
 obtain ⟨T,hT⟩:∃q,q=ts.getD t (0,0,0):=⟨_,rfl⟩
 rw [<-hT] at k1 k2 k3
 have lx:=DT (W:=w) hx
 refine Ag (args:=[(aG (Cf x)),(vN t)]) (L:=[AN x.a.p (rowsL Aa ps),AN x.b.p (rowsL Af ts),AN x.c.p (rowsL Af ss)]) func134 O O (A_ O) (DU hx Az) (zM (sL [0,1] O) (q4 (BV (cs:=Cf x) O λb1=>al Wq O λb2=>q3 (sL [1,2,4] O) (AD (v:=(pP b1 1)) (AA O underlying34 O sizeOf28 O) O (BG 1 (qz x.b.p ts.length x.b.c) C5 O (AL O (AD (v:=(pP (pB x.b.p) (pO x.b.p+t*3))) (AO (j:=t) O O x.b.ok underlying28 sizeOf71 O Z) O (AD (v:=(aG (Af (ts.getD t jJ)))) (AM (vs:=Af (ts.getD t jJ)) (i:=3) O O (A8.ne x.b.ok Z) Ec (Ae Av _ _ _ Z) (Av _)) O (zL (k:=10) (u:=(aG (Af T))) O (by rw [hT]) ?_)))))))))
 refine al J1 O λb3=>Ah O sizeOf71 O (q6 (sL [2,4,5] O) (C8 (El 19++[(19,false)]) (sk (sl sr)) (Al (v:=(pP b1 0)) O (AA O underlying34 O sizeOf32 O) (BQ 1 (qz x.a.p ps.length x.a.c) C2 O (Al (v:=(pP b3 0)) O (AB (j:=0) O O underlying71 sizeOf3 O jY O) (BQ 0 (vN T.1) Bk O (Al (v:=(pP (pB x.a.p) (pO x.a.p+T.1*10))) O (AO (j:=T.1) O O x.a.ok underlying32 sizeOf78 O Z) (Al (v:=(aG (Aa (ps.getD T.1 (⟨0,0⟩:Pt))))) O (AM (vs:=Aa (ps.getD T.1 (⟨0,0⟩:Pt))) (i:=2) O O (A8.ne x.a.ok Z) A9 (Ae Ap _ _ _ Z) (Ap _)) (Al (v:=(pP b1 0)) O (AA O underlying34 O sizeOf32 O) (BQ 1 (qz x.a.p ps.length x.a.c) C2 O ?_))))))))))
 refine Al (v:=(pP b3 1)) O (AB (j:=1) O O underlying71 sizeOf3 O jY O) (BQ 0 (vN T.2.1) Bk O (Al (v:=(pP (pB x.a.p) (pO x.a.p+T.2.1*10))) O (AO (j:=T.2.1) O O x.a.ok underlying32 sizeOf78 O Z) (Al (v:=(aG (Aa (ps.getD T.2.1 (⟨0,0⟩:Pt))))) O (AM (vs:=Aa (ps.getD T.2.1 (⟨0,0⟩:Pt))) (i:=2) O O (A8.ne x.a.ok Z) A9 (Ae Ap _ _ _ Z) (Ap _)) (Al (v:=(pP b1 0)) O (AA O underlying34 O sizeOf32 O) (BQ 1 (qz x.a.p ps.length x.a.c) C2 O (Al (v:=(pP b3 2)) O (AB (j:=2) O O underlying71 sizeOf3 O jY O) (BQ 0 (vN T.2.2) Bk O (Al (v:=(pP (pB x.a.p) (pO x.a.p+T.2.2*10))) O (AO (j:=T.2.2) O O x.a.ok underlying32 sizeOf78 O Z) (Al (v:=(aG (Aa (ps.getD T.2.2 (⟨0,0⟩:Pt))))) O (AM (vs:=Aa (ps.getD T.2.2 (⟨0,0⟩:Pt))) (i:=2) O O (A8.ne x.a.ok Z) A9 (Ae Ap _ _ _ Z) (Ap _)) (Al (v:=(aG (Aa (ps.getD T.1 (⟨0,0⟩:Pt))++Aa (ps.getD T.2.1 (⟨0,0⟩:Pt))++Aa (ps.getD T.2.2 (⟨0,0⟩:Pt))))) O (Ao (zs:=H8 ((⟨0,0⟩,⟨0,0⟩,⟨0,0⟩):Q3)) (vs:=Aa (ps.getD T.1 (⟨0,0⟩:Pt))++Aa (ps.getD T.2.1 (⟨0,0⟩:Pt))++Aa (ps.getD T.2.2 (⟨0,0⟩:Pt))) (pv:=[(0,(aG (Aa (ps.getD T.1 (⟨0,0⟩:Pt))))),(1,(aG (Aa (ps.getD T.2.1 (⟨0,0⟩:Pt))))),(2,(aG (Aa (ps.getD T.2.2 (⟨0,0⟩:Pt)))))]) zeroValue204 underlying204 sizeOf78 O (EW (ps.getD T.1 (⟨0,0⟩:Pt)) (ps.getD T.2.1 (⟨0,0⟩:Pt)) (ps.getD T.2.2 (⟨0,0⟩:Pt)))) (zN O ?_)))))))))))
 exact CM O sizeOf204 O (zD (sk (sl sr)) (zQ (zB (sL [2,4,5] O) (zA (zG (ret_one O (An (i:=1) (cs:=Aa (ps.getD T.1 (⟨0,0⟩:Pt))++Aa (ps.getD T.2.1 (⟨0,0⟩:Pt))++Aa (ps.getD T.2.2 (⟨0,0⟩:Pt))) O O isAgg204 sizeOf204 O) (λw hw=>⟨by rw [<-hT];unfold Bd cor;rw [<-cI],hw.out⟩)))))))
theorem NU (r p q:Pt) (bp:BX (Aa p)) (bq:BX (Aa q)) (hs:Bl p+Bl q+Bl r<=10000000) (w:World) {S:Nat->Prop} (hbp:Ro S w bp) (hbq:Ro S w bq):Calls prog 185 #[(aG (Aa r)),(pP bp.b 0),(pP bq.b 0)] w (Ac w (qa (MH p q r))):=by
 have lbp:=DT (W:=w) hbp
 have lbq:=DT (W:=w) hbq
 refine Ag (args:=[(aG (Aa r)),(pP bp.b 0),(pP bq.b 0)]) (L:=[AN (some ⟨bp.b,0,none⟩) (Aa p),AN (some ⟨bq.b,0,none⟩) (Aa q)]) func185 O O (A_ O) (DU hbp (DU hbq Az)) (zM (sL [0,1,2] O) (q4 (BV (cs:=Aa r) O λb1=>asg' O (q3 (sL [1,2,3,4] O) (AD (v:=(aG (Aa p))) (AM (q:=some ⟨bp.b,0,none⟩) (vs:=Aa p) (off:=0) (i:=1) O O (λe=>by cases e) A9 O O) O (AD (v:=(aG (Aa q))) (AM (q:=some ⟨bq.b,0,none⟩) (vs:=Aa q) (off:=0) (i:=2) O O (λe=>by cases e) A9 O O) O (Ak 0 A9 O (ck' call111 (Gw p q r Z) O (AD (Da (c:=(MH p q r)) O O O) O (asg' O ?_))))))))))
 exact oNl' (zB (sL [4] O) (zA (zG (ret_one O (rd_tmp (v:=(qa (MH p q r))) O) (λw hw=>⟨rfl,hw.out⟩)))))
theorem aD (p q:Pt) (B:Q3) (bp:BX (Aa p)) (bq:BX (Aa q)) (bo:BX (H8 B)) (hs:Bl p<=1000000/\Bl q<=1000000) (hB:Bl B.1<=1000000/\Bl B.2.1<=1000000/\Bl B.2.2<=1000000) (w:World) {S:Nat->Prop} (hbp:Ro S w bp) (hbq:Ro S w bq) (hbo:Ro S w bo):Calls prog 234 #[(qz (some ⟨bo.b,0,none⟩) 3 3),(Value.func (.func 185) #[] #[(pP bp.b 0),(pP bq.b 0)])] w (Ac w (vI (VR p q B))):=by
 have lbp:=DT (W:=w) hbp
 have lbq:=DT (W:=w) hbq
 have lbo:=DT (W:=w) hbo
 refine Ag (args:=[(qz (some ⟨bo.b,0,none⟩) 3 3),(Value.func (.func 185) #[] #[(pP bp.b 0),(pP bq.b 0)])]) (L:=[AN (some ⟨bp.b,0,none⟩) (Aa p),AN (some ⟨bq.b,0,none⟩) (Aa q),AN (some ⟨bo.b,0,none⟩) (H8 B)]) func234 O O (A_ O) (DU hbp (DU hbq (DU hbo Az))) (zM (sL [0,1] O) (q4 (asg' O (oNl' (q1 (q4 (AL O (AD (v:=(vI 3)) (AE O underlying32) O (AL O (oNl' (zB (sL [0,1,4,7,8] O) ?_)))))))))))
 refine zA (zI (yD 4 (zZ (q4 (AD (Ab (c:=true) O O jY) O (oNl' (q1 (zV O (zC (q1 (zI ?_)))))))))))
 refine q4 (AL O (asg' O (q3 (sL [0,1,4,7,8,5] O) (AL O (AL O (AL O (AD (v:=(pP bo.b 0)) (AG (j:=0) O O underlying32 sizeOf78 O Z O) O (AD (v:=(aG (Aa B.1))) (AM (q:=some ⟨bo.b,0,none⟩) (vs:=Aa B.1) (off:=0) (i:=2) O O (λe=>by cases e) A9 O O) O (zg (v:=(qa (MH p q B.1))) (AI O) (Dn (args:=[(aG (Aa B.1))]) (caps:=[(pP bp.b 0),(pP bq.b 0)]) (all:=[(aG (Aa B.1)),(pP bp.b 0),(pP bq.b 0)]) O O O call185) (λw hw=>NU B.1 p q bp bq Z w (CL hw 0 O lbp) (CL hw 1 O lbq)) O (A_ O) (oNl' (zB (sL [0,1,4,7,8,5,16] O) ?_)))))))))))
 refine zA ?_
 refine zK O (λhc1=>?_) (λhc1=>?_)
 ·have hr:VR p q B=0:=by unfold VR;rw [if_pos hc1]
  exact q4 (AL O (asg' O (oNl' (zB (sL [0,1,4,7,8,5] O) (zA (zG (zR (zJ (zJ (zR (zJ (ret_one O (rd_tmp (v:=(vI 0)) O) (λw hw=>⟨by rw [hr]<;>rfl,hw.out⟩)))))))))))))
 ·have k0:¬MH p q B.1=true:=by simpa using hc1
  refine zC (zF (zA (zH (AD (AS (c:=(1:Int)) O O jY) O (AL O (oNl' (zB (sL [0,1,4,7,8,5] O) (zk (zZ (q4 (AD (Ab (c:=true) O O jY) O ?_)))))))))))
  refine oNl' (q1 (zV O (zC (q1 (zI (q4 (AL O (asg' O (q3 (sL [0,1,4,7,8,5] O) (AL O (AL O ?_)))))))))))
  refine AL O (AD (v:=(pP bo.b 10)) (AG (j:=1) O O underlying32 sizeOf78 O Z O) O (AD (v:=(aG (Aa B.2.1))) (AM (q:=some ⟨bo.b,0,none⟩) (vs:=Aa B.2.1) (off:=10) (i:=2) O O (λe=>by cases e) A9 O O) O (zg (v:=(qa (MH p q B.2.1))) (AI O) (Dn (args:=[(aG (Aa B.2.1))]) (caps:=[(pP bp.b 0),(pP bq.b 0)]) (all:=[(aG (Aa B.2.1)),(pP bp.b 0),(pP bq.b 0)]) O O O call185) (λw hw=>NU B.2.1 p q bp bq Z w (CL hw 0 O lbp) (CL hw 1 O lbq)) O (A_ O) (oNl' (zB (sL [0,1,4,7,8,5,16] O) (zA ?_))))))
  refine zK O (λhc1=>?_) (λhc1=>?_)
  ·have hr:VR p q B=1:=by unfold VR;rw [if_neg k0,if_pos hc1]
   exact q4 (AL O (asg' O (oNl' (zB (sL [0,1,4,7,8,5] O) (zA (zG (zR (zJ (zJ (zR (zJ (ret_one O (rd_tmp (v:=(vI 1)) O) (λw hw=>⟨by rw [hr]<;>rfl,hw.out⟩)))))))))))))
  ·have k1:¬MH p q B.2.1=true:=by simpa using hc1
   refine zC (zF (zA (zH (AD (AS (c:=(2:Int)) O O jY) O (AL O (oNl' (zB (sL [0,1,4,7,8,5] O) (zk (zZ (q4 (AD (Ab (c:=true) O O jY) O ?_)))))))))))
   refine oNl' (q1 (zV O (zC (q1 (zI (q4 (AL O (asg' O (q3 (sL [0,1,4,7,8,5] O) (AL O (AL O ?_)))))))))))
   refine AL O (AD (v:=(pP bo.b 20)) (AG (j:=2) O O underlying32 sizeOf78 O Z O) O (AD (v:=(aG (Aa B.2.2))) (AM (q:=some ⟨bo.b,0,none⟩) (vs:=Aa B.2.2) (off:=20) (i:=2) O O (λe=>by cases e) A9 O O) O (zg (v:=(qa (MH p q B.2.2))) (AI O) (Dn (args:=[(aG (Aa B.2.2))]) (caps:=[(pP bp.b 0),(pP bq.b 0)]) (all:=[(aG (Aa B.2.2)),(pP bp.b 0),(pP bq.b 0)]) O O O call185) (λw hw=>NU B.2.2 p q bp bq Z w (CL hw 0 O lbp) (CL hw 1 O lbq)) O (A_ O) (oNl' (zB (sL [0,1,4,7,8,5,16] O) (zA ?_))))))
   refine zK O (λhc1=>?_) (λhc1=>?_)
   ·have hr:VR p q B=2:=by unfold VR;rw [if_neg k0,if_neg k1,if_pos hc1]
    exact q4 (AL O (asg' O (oNl' (zB (sL [0,1,4,7,8,5] O) (zA (zG (zR (zJ (zJ (zR (zJ (ret_one O (rd_tmp (v:=(vI 2)) O) (λw hw=>⟨by rw [hr]<;>rfl,hw.out⟩)))))))))))))
   ·have k2:¬MH p q B.2.2=true:=by simpa using hc1
    have hr:VR p q B = -1:=by unfold VR;rw [if_neg k0,if_neg k1,if_neg k2]
    refine zC (zF (zA (zH (AD (AS (c:=(3:Int)) O O jY) O (AL O (oNl' (zB (sL [0,1,4,7,8,5] O) (zk (zZ (q4 (AD (Ab (c:=false) O O jY) O ?_)))))))))))
    refine oNl' (q1 (zS O (zU (zO (zO (zP (q2 (asg' O (oNl' (zB (sL [0,1,4,7,8,5] O) (zA ?_)))))))))))
    exact zG (ret_one O (rd_tmp (v:=(vI (-1:Int))) O) (λw hw=>⟨by rw [hr]<;>rfl,hw.out⟩))
theorem Nz (p q:Pt) (B:Q3) (bp:BX (Aa p)) (bq:BX (Aa q)) (bo:BX (H8 B)) (hs:Bl p<=1000000/\Bl q<=1000000) (hB:Bl B.1<=1000000/\Bl B.2.1<=1000000/\Bl B.2.2<=1000000) (w:World) {S:Nat->Prop} (hbp:Ro S w bp) (hbq:Ro S w bq) (hbo:Ro S w bo):Calls prog 184 #[(qz (some ⟨bo.b,0,none⟩) 3 3),(Value.func (.func 185) #[] #[(pP bp.b 0),(pP bq.b 0)])] w (Ac w (qa (Fp p q B))):=by
 have lbp:=DT (W:=w) hbp
 have lbq:=DT (W:=w) hbq
 have lbo:=DT (W:=w) hbo
 refine Ag (args:=[(qz (some ⟨bo.b,0,none⟩) 3 3),(Value.func (.func 185) #[] #[(pP bp.b 0),(pP bq.b 0)])]) (L:=[AN (some ⟨bp.b,0,none⟩) (Aa p),AN (some ⟨bq.b,0,none⟩) (Aa q),AN (some ⟨bo.b,0,none⟩) (H8 B)]) func184 O O (A_ O) (DU hbp (DU hbq (DU hbo Az))) (zM (sL [0,1] O) (q4 (asg' O (oNl' (q2 (AL O (AL O (C3 call234 (λw hw=>aD p q B bp bq bo hs hB w (CL hw 0 O lbp) (CL hw 1 O lbq) (CL hw 2 O lbo)) O (AD (D1 (c:=(Fp p q B)) O O (YK p q B)) O (asg' O (oNl' ?_)))))))))))
 exact zB (sL [4] O) (zA (zG (ret_one O (rd_tmp (v:=(qa (Fp p q B))) O) (λw hw=>⟨rfl,hw.out⟩))))
set_option maxHeartbeats 1000000 in
theorem US (A B:Q3) (hA:Bl A.1<=1000000/\Bl A.2.1<=1000000/\Bl A.2.2<=1000000) (hB:Bl B.1<=1000000/\Bl B.2.1<=1000000/\Bl B.2.2<=1000000) (w:World)  :Calls prog 135 #[(aG (H8 A)),(aG (H8 B))] w (Ac w (qa (Dw A B))):=by
 refine AW (args:=[(aG (H8 A)),(aG (H8 B))]) func135 O O (A_ O) (zM (sL [0,1] O) (q4 (BV (cs:=H8 A) O λb1=>BV (cs:=H8 B) O λb2=>yN 0 O O λhnb2=>asg' O (q6 (sL [2,3,4] O) (q4 (AL O (oNl' (zA ?_))))))))
 refine zI (yD 4 (zZ (q4 (AD (Ab (c:=true) O O jY) O (oNl' (q1 (zV O (zC (q1 (zI (q4 ?_)))))))))))
 refine AL O (asg' O (q6 (sL [2,3,4,8,5] O) (rN [(0,true),(1,true),(2,true),(3,true),(4,true),(5,true),(6,true),(7,true)] [⟨8,6,78,Aa (⟨0,0⟩:Pt)⟩,⟨9,7,78,Aa (⟨0,0⟩:Pt)⟩] [(10,false),(11,false)] sr jV (λ_ _ d _ _ h=>by cases d<;>exact h) (FL O O Em O (FL O O Em O (Hg))) O (Q0 O (F9 (v:=(pP b1 0)) O (AB (j:=0) O O underlying204 sizeOf78 O jY O) O (Wy 1 (Aa A.1) A9 O (Q0 O (F9 O (AS (c:=(1:Int)) O O jY) O (F9 O (CE (c:=(1:Int)) O O jY jY) O (F9 (v:=(pP b1 10)) O (AB (j:=1) O O underlying204 sizeOf78 O jY O) O (Wy 1 (Aa A.2.1) A9 O ?_)))))))))))
 refine yW λb3 b4=>zN O (Ah O sizeOf78 O (zD (sl (sl sr)) (zN O (CM O sizeOf78 O (zD (sl (sl sr)) (zQ (zB (sL [2,3,4,8,7,6] O) (q2 (AD (v:=(qz (jk b2) 3 3)) (FE O underlying204 sizeOf78 jY) O (yN 0 O O λhnb3=>?_))))))))))
 refine yN 1 O O λhnb4=>AD (v:=(Value.func (.func 185) #[] #[(pP b3 0),(pP b4 0)])) (Dt (vs:=[]) (us:=[(pP b3 0),(pP b4 0)]) O O) O (C3 call184 (λw hw=>Nz A.1 A.2.1 B ⟨b3⟩ ⟨b4⟩ ⟨b2⟩ Z hB w (VM (S:=λ_=>False) (x:=(⟨b3⟩:BX (Aa A.1))) hw 0 O hnb3) (VM (S:=λ_=>False) (x:=(⟨b4⟩:BX (Aa A.2.1))) hw 1 O hnb4) (VM (S:=λ_=>False) (x:=(⟨b2⟩:BX (H8 B))) hw 2 O hnb2)) O (AD (BE (c:=(!(Fp A.1 A.2.1 B))) O O) O (oNl' (zB (sL [2,3,4,8,7,6,22] O) (zA ?_)))))
 refine zK O (λhc1=>?_) (λhc1=>?_)
 ·simp only [jK] at hc1
  have hr:Dw A B=true:=by unfold Dw;rw [(by simpa using hc1:Fp A.1 A.2.1 B=false)];simp
  exact q4 (asg' O (oNl' (zA (zG (zR (zJ (zJ (zR (zJ (ret_one O (rd_tmp (v:=(qa true)) O) (λw hw=>⟨by rw [hr],hw.out⟩)))))))))))
 ·simp only [jK] at hc1
  have k0:Fp A.1 A.2.1 B=true:=by simpa using hc1
  refine zC (zF (zA (zH (AD (AS (c:=(1:Int)) O O jY) O (AL O (oNl' (zB (sL [2,3,4,8,7,6] O) (zk (zZ (q4 (AD (Ab (c:=true) O O jY) O ?_)))))))))))
  refine oNl' (q1 (zV O (zC (q1 (zI (q4 (AL O (asg' O (q6 (sL [2,3,4,8,7,6,5] O) (zM (sL [2,3,4,8,5] O) (rN [(0,true),(1,true),(2,true),(3,true),(4,true),(5,true),(6,true),(7,true)] [⟨8,6,78,Aa (⟨0,0⟩:Pt)⟩,⟨9,7,78,Aa (⟨0,0⟩:Pt)⟩] [(10,false),(11,false)] sr jV (λ_ _ d _ _ h=>by cases d<;>exact h) (FL O O Em O (FL O O Em O (Hg))) O ?_)))))))))))
  refine Q0 O (F9 (v:=(pP b1 10)) O (AB (j:=1) O O underlying204 sizeOf78 O jY O) O (Wy 3 (Aa A.2.1) A9 O (Q0 O (F9 O (AS (c:=(2:Int)) O O jY) O (F9 O (CE (c:=(2:Int)) O O jY jY) O (F9 (v:=(pP b1 20)) O (AB (j:=2) O O underlying204 sizeOf78 O jY O) O (Wy 3 (Aa A.2.2) A9 O (yW λb5 b6=>zN O (Ah O sizeOf78 O (zD (sl (sl sr)) ?_))))))))))
  refine zN O (CM O sizeOf78 O (zD (sl (sl sr)) (zQ (zB (sL [2,3,4,8,7,6] O) (q2 (AD (v:=(qz (jk b2) 3 3)) (FE O underlying204 sizeOf78 jY) O (yN 0 O O λhnb5=>yN 1 O O λhnb6=>AD (v:=(Value.func (.func 185) #[] #[(pP b5 0),(pP b6 0)])) (Dt (vs:=[]) (us:=[(pP b5 0),(pP b6 0)]) O O) O (C3 call184 (λw hw=>Nz A.2.1 A.2.2 B ⟨b5⟩ ⟨b6⟩ ⟨b2⟩ Z hB w (VM (S:=λ_=>False) (x:=(⟨b5⟩:BX (Aa A.2.1))) hw 0 O hnb5) (VM (S:=λ_=>False) (x:=(⟨b6⟩:BX (Aa A.2.2))) hw 1 O hnb6) (VM (S:=λ_=>False) (x:=(⟨b2⟩:BX (H8 B))) hw 4 O hnb2)) O (AD (BE (c:=(!(Fp A.2.1 A.2.2 B))) O O) O ?_)))))))))
  refine oNl' (zB (sL [2,3,4,8,7,6,22] O) (zA ?_))
  refine zK O (λhc1=>?_) (λhc1=>?_)
  ·simp only [jK] at hc1
   have hr:Dw A B=true:=by unfold Dw;rw [k0,(by simpa using hc1:Fp A.2.1 A.2.2 B=false)];simp
   exact q4 (asg' O (oNl' (zA (zG (zR (zJ (zJ (zR (zJ (ret_one O (rd_tmp (v:=(qa true)) O) (λw hw=>⟨by rw [hr],hw.out⟩)))))))))))
  ·simp only [jK] at hc1
   have k1:Fp A.2.1 A.2.2 B=true:=by simpa using hc1
   refine zC (zF (zA (zH (AD (AS (c:=(2:Int)) O O jY) O (AL O (oNl' (zB (sL [2,3,4,8,7,6] O) (zk (zZ (q4 (AD (Ab (c:=true) O O jY) O ?_)))))))))))
   refine oNl' (q1 (zV O (zC (q1 (zI (q4 (AL O (asg' O (q6 (sL [2,3,4,8,7,6,5] O) (zM (sL [2,3,4,8,5] O) (rN [(0,true),(1,true),(2,true),(3,true),(4,true),(5,true),(6,true),(7,true)] [⟨8,6,78,Aa (⟨0,0⟩:Pt)⟩,⟨9,7,78,Aa (⟨0,0⟩:Pt)⟩] [(10,false),(11,false)] sr jV (λ_ _ d _ _ h=>by cases d<;>exact h) (FL O O Em O (FL O O Em O (Hg))) O ?_)))))))))))
   refine Q0 O (F9 (v:=(pP b1 20)) O (AB (j:=2) O O underlying204 sizeOf78 O jY O) O (Wy 5 (Aa A.2.2) A9 O (Q0 O (F9 O (AS (c:=(3:Int)) O O jY) O (F9 O (CE (c:=(0:Int)) O O jY jY) O (F9 (v:=(pP b1 0)) O (AB (j:=0) O O underlying204 sizeOf78 O jY O) O (Wy 5 (Aa A.1) A9 O (yW λb7 b8=>zN O (Ah O sizeOf78 O (zD (sl (sl sr)) ?_))))))))))
   refine zN O (CM O sizeOf78 O (zD (sl (sl sr)) (zQ (zB (sL [2,3,4,8,7,6] O) (q2 (AD (v:=(qz (jk b2) 3 3)) (FE O underlying204 sizeOf78 jY) O (yN 0 O O λhnb7=>yN 1 O O λhnb8=>AD (v:=(Value.func (.func 185) #[] #[(pP b7 0),(pP b8 0)])) (Dt (vs:=[]) (us:=[(pP b7 0),(pP b8 0)]) O O) O (C3 call184 (λw hw=>Nz A.2.2 A.1 B ⟨b7⟩ ⟨b8⟩ ⟨b2⟩ Z hB w (VM (S:=λ_=>False) (x:=(⟨b7⟩:BX (Aa A.2.2))) hw 0 O hnb7) (VM (S:=λ_=>False) (x:=(⟨b8⟩:BX (Aa A.1))) hw 1 O hnb8) (VM (S:=λ_=>False) (x:=(⟨b2⟩:BX (H8 B))) hw 6 O hnb2)) O (AD (BE (c:=(!(Fp A.2.2 A.1 B))) O O) O ?_)))))))))
   refine oNl' (zB (sL [2,3,4,8,7,6,22] O) (zA ?_))
   refine zK O (λhc1=>?_) (λhc1=>?_)
   ·simp only [jK] at hc1
    have hr:Dw A B=true:=by unfold Dw;rw [k0,k1,(by simpa using hc1:Fp A.2.2 A.1 B=false)];simp
    exact q4 (asg' O (oNl' (zA (zG (zR (zJ (zJ (zR (zJ (ret_one O (rd_tmp (v:=(qa true)) O) (λw hw=>⟨by rw [hr],hw.out⟩)))))))))))
   ·simp only [jK] at hc1
    have k2:Fp A.2.2 A.1 B=true:=by simpa using hc1
    have hr:Dw A B=false:=by unfold Dw;rw [k0,k1,k2];rfl
    refine zC (zF (zA (zH (AD (AS (c:=(3:Int)) O O jY) O (AL O (oNl' (zB (sL [2,3,4,8,7,6] O) (zk (zZ (q4 (AD (Ab (c:=false) O O jY) O ?_)))))))))))
    refine oNl' (q1 (zS O (zU (zO (zO (zP (q2 (asg' O (oNl' (zB (sL [2,3,4,8,7,6] O) (zA ?_)))))))))))
    exact zG (ret_one O (rd_tmp (v:=(qa false)) O) (λw hw=>⟨by rw [hr],hw.out⟩))
end
end Go.Proofs.YtbfdamnfcmefmaaGreatDoor
