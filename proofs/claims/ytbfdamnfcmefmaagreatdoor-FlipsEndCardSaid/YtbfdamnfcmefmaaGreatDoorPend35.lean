import Derived.Test.YtbfdamnfcmefmaaGreatDoorPend34
namespace Go.Proofs.YtbfdamnfcmefmaaGreatDoor
open Go Go.RowKit Go.Proofs.Tryz
open Go.Value renaming slice→qz,bool→qa
set_option linter.unusedVariables false
set_option linter.unusedSimpArgs false
section
set_option maxRecDepth 100000
theorem FG  :Instr.fill ([(0,1),(1,1),(2,1)].toArray[·]?) ([jj,jj,jj]).toArray []=some ([jj,jj,jj]).toArray:=by kernel_rfl
theorem Ts {ps:List Pt} {ts:List T3} {ss:List Z3} (x:MN ps ts ss) (u v:Int) (hnb:Ba ps.length ts=true) (htl:ts.length<=1000000) (hN:ps.length<=1000000) (hsl:ss.length<=1000000) (hno:GF ts u v<0) (w:World) {S:Nat->Prop} (hx:Ro S w x):Calls prog 19 #[(aG (CG x)),(vI u),(vI v)] w (BP (Tf [] [] [] 1) S w):=by
 have lx:=DT (W:=w) hx
 refine Ag (args:=[(aG (CG x)),(vI u),(vI v)]) (L:=[AN x.a.p (rowsL Aa ps),AN x.b.p (rowsL Af ts),AN x.c.p (rowsL BU ss)]) func19 O O (A_ O) (DU hx Az) (zM (sL [0,1,2] O) (q4 (BV (cs:=CG x) O λb1=>al G6 O λb2=>asg' O (q3 (sL [1,2,3,6,7] O) (Ak 1 BY O (AL O (AL O (C3 (args:=[(aG (CG x)),(vI u),(vI v)]) (v:=(Value.tuple #[(aG (Bn (Dh ts u v))),(qa false)])) call48 (λw hw=>(by have h9:=IS x u v hnb htl hN w (CL hw 2 O lx);rw [xH (show ¬0<=GF ts u v by omega)] at h9;exact h9)) O (AL O ?_)))))))))
 refine AD (AJ (v:=(aG (Bn (Dh ts u v)))) O O) O (AD (AJ (v:=(qa false)) O O) O (al JN O λb3=>Ah O sizeOf54 O (asg' O (q6 (sL [3,6,7,8,9] O) (q4 (AL O (AD (BE (c:=true) O O) O (oNl' (zB (sL [3,6,7,8,20] O) (zA ?_))))))))))
 exact zV O (q4 (AD (v:=(aG ([jj,jj,jj]))) (AQ (zs:=[jj,jj,jj]) (vs:=[jj,jj,jj]) (pv:=[]) (places:=[(0,1),(1,1),(2,1)]) zeroValue34 underlying34 (λw=>by simp [sizeOf28,sizeOf29,sizeOf32]) O (FG )) O (CM O sizeOf34 O (asg' O (oNl' (zB (sL [3,6,7,8] O) (zA (zG (zJ (Bs O (An (i:=1) (cs:=[jj,jj,jj]) O O isAgg34 sizeOf34 O) (rd_tmp (v:=(vI 1)) O) (λw hw=>(Qq hw 1 O))))))))))))
theorem Tt {ps:List Pt} {ts:List T3} {ss:List Z3} (x:MN ps ts ss) (u v:Int) (hnb:Ba ps.length ts=true) (htl:ts.length<=1000000) (hN:ps.length<=1000000) (hsl:ss.length<=1000000) (hed:0<=GF ts u v) (hbo:CZ (Dh ts u v)=false) (w:World) {S:Nat->Prop} (hx:Ro S w x):Calls prog 19 #[(aG (CG x)),(vI u),(vI v)] w (BP (Tf [] [] [] 7) S w):=by
 have lx:=DT (W:=w) hx
 refine Ag (args:=[(aG (CG x)),(vI u),(vI v)]) (L:=[AN x.a.p (rowsL Aa ps),AN x.b.p (rowsL Af ts),AN x.c.p (rowsL BU ss)]) func19 O O (A_ O) (DU hx Az) (zM (sL [0,1,2] O) (q4 (BV (cs:=CG x) O λb1=>al G6 O λb2=>asg' O (q3 (sL [1,2,3,6,7] O) (Ak 1 BY O (AL O (AL O (C3 (args:=[(aG (CG x)),(vI u),(vI v)]) (v:=(Value.tuple #[(aG (Bn (Dh ts u v))),(qa true)])) call48 (λw hw=>(by have h9:=IS x u v hnb htl hN w (CL hw 2 O lx);rw [xI hed] at h9;exact h9)) O (AL O ?_)))))))))
 refine AD (AJ (v:=(aG (Bn (Dh ts u v)))) O O) O (AD (AJ (v:=(qa true)) O O) O (al JN O λb3=>Ah O sizeOf54 O (asg' O (q6 (sL [3,6,7,8,9] O) (q4 (AL O (AD (BE (c:=false) O O) O (oNl' (zB (sL [3,6,7,8,20] O) (zA ?_))))))))))
 refine zS O (zC (q2 (Ak 2 BY O (yH (S:=S) (V:=λa:XN ps ts ss=>aG (Zw a)) (LW:=Zx) (args:=[(aG (CG x))]) call27 (λw hw=>Gh x Z Z Z w (CL hw 3 O lx)) O λcp hcp=>Fj 5 (off:=0) (vs:=[(qz cp.a.p ps.length ps.length),(qz cp.b.p ts.length ts.length),(qz cp.c.p ss.length ss.length)]) (cs':=[(qz cp.a.p ps.length ps.length),(qz cp.b.p ts.length ts.length),(qz cp.c.p ss.length ss.length)]) (AI O) O sizeOf34 O (q6 (sL [3,6,7,8] O) (q4 (Ak 5 BY O (zx 2 O cp.a.ok (AZ Ap _) O O λhn_cp_a=>zx 0 O cp.c.ok (AZ Ce _) O O λhn_cp_c=>Ak 3 IB O ?_))))))))
 refine C3 (args:=[(aG ([(qz cp.a.p ps.length ps.length),(qz cp.b.p ts.length ts.length),(qz cp.c.p ss.length ss.length)])),(aG (Bn (Dh ts u v)))]) (v:=(Value.tuple #[(aG (Jk (B9 ts (Dh ts u v)))),(qa false)])) call49 (λw hw=>(by have h9:=Li (⟨⟨cp.a.p,ps.length,cp.a.ok.clip⟩,⟨cp.b.p,ts.length,cp.b.ok.clip⟩,⟨cp.c.p,ss.length,cp.c.ok.clip⟩⟩:MN ps ts ss) (Dh ts u v) (HK hed) hnb hN w (Vk (Lp (CL (S:=S) hw 2 O (At.new hn_cp_a))) (Qr hw 1 O cp.b.ok (AZ Av _) cp.b.ok.clip) (Lp (CL (S:=S) hw 0 O (At.new hn_cp_c))));rw [hbo] at h9;exact h9)) O (AL O (AD (AJ (v:=(aG (Jk (B9 ts (Dh ts u v))))) O O) O (AD (AJ (v:=(qa false)) O O) O (al Lv O λb4=>Ah O sizeOf127 O (asg' O (q3 (sL [3,6,7,8,10,11] O) (AL O (AD (BE (c:=true) O O) O (AL O (BT O ?_))))))))))
 refine BT O (BT O (BT O (AD (v:=(qa true)) (AX O O) O (oNl' (zB (sL [3,6,7,8,10,37] O) (zA (zV O (q4 (AD (v:=(aG ([jj,jj,jj]))) (AQ (zs:=[jj,jj,jj]) (vs:=[jj,jj,jj]) (pv:=[]) (places:=[(0,1),(1,1),(2,1)]) zeroValue34 underlying34 (λw=>by simp [sizeOf28,sizeOf29,sizeOf32]) O (FG )) O (Fj 5 (off:=0) (vs:=[jj,jj,jj]) (cs':=[jj,jj,jj]) (AI O) O sizeOf34 O (asg' O ?_)))))))))))
 exact oNl' (zB (sL [3,6,7,8,10] O) (zA (zG (zJ (Bs O (An (i:=5) (cs:=[jj,jj,jj]) O O isAgg34 sizeOf34 O) (rd_tmp (v:=(vI 7)) O) (λw hw=>(Qq hw 7 O)))))))
theorem Tu {ps:List Pt} {ts:List T3} {ss:List Z3} (x:MN ps ts ss) (u v:Int) (hnb:Ba ps.length ts=true) (htl:ts.length<=1000000) (hN:ps.length<=1000000) (hsl:ss.length<=1000000) (hz:∀i,Bl (cor ps i)<=200000) (hed:0<=GF ts u v) (a b p q c d:Nat) (h2:IJ ps.length ts (Dh ts u v) p q c d) (hE:Dh ts u v=⟨a,b,(p:Int),(q:Int)⟩) (hB:Db ps a b c d=false) (w:World) {S:Nat->Prop} (hx:Ro S w x):Calls prog 19 #[(aG (CG x)),(vI u),(vI v)] w (BP (Tf [] [] [] 7) S w):=by
 have h2a:a<ps.length:=by have h9:=h2.sc.a;rw [hE] at h9;exact h9
 have h2b:b<ps.length:=by have h9:=h2.sc.b;rw [hE] at h9;exact h9
 have h2c:=h2.sc.c
 have h2d:=h2.sd.c
 have lx:=DT (W:=w) hx
 refine Ag (args:=[(aG (CG x)),(vI u),(vI v)]) (L:=[AN x.a.p (rowsL Aa ps),AN x.b.p (rowsL Af ts),AN x.c.p (rowsL BU ss)]) func19 O O (A_ O) (DU hx Az) (zM (sL [0,1,2] O) (q4 (BV (cs:=CG x) O λb1=>al G6 O λb2=>asg' O (q3 (sL [1,2,3,6,7] O) (Ak 1 BY O (AL O (AL O (C3 (args:=[(aG (CG x)),(vI u),(vI v)]) (v:=(Value.tuple #[(aG ([(vN a),(vN b),(vN p),(vN q)])),(qa true)])) call48 (λw hw=>(by have h9:=IS x u v hnb htl hN w (CL hw 2 O lx);rw [xI hed,hE] at h9;exact h9)) O (AL O ?_)))))))))
 refine AD (AJ (v:=(aG ([(vN a),(vN b),(vN p),(vN q)]))) O O) O (AD (AJ (v:=(qa true)) O O) O (al JN O λb3=>Ah O sizeOf54 O (asg' O (q6 (sL [3,6,7,8,9] O) (q4 (AL O (AD (BE (c:=false) O O) O (oNl' (zB (sL [3,6,7,8,20] O) (zA ?_))))))))))
 refine zS O (zC (q2 (Ak 2 BY O (yH (S:=S) (V:=λa:XN ps ts ss=>aG (Zw a)) (LW:=Zx) (args:=[(aG (CG x))]) call27 (λw hw=>Gh x Z Z Z w (CL hw 3 O lx)) O λcp hcp=>Fj 5 (off:=0) (vs:=[(qz cp.a.p ps.length ps.length),(qz cp.b.p ts.length ts.length),(qz cp.c.p ss.length ss.length)]) (cs':=[(qz cp.a.p ps.length ps.length),(qz cp.b.p ts.length ts.length),(qz cp.c.p ss.length ss.length)]) (AI O) O sizeOf34 O (q6 (sL [3,6,7,8] O) (q4 (Ak 5 BY O (zx 2 O cp.a.ok (AZ Ap _) O O λhn_cp_a=>zx 0 O cp.c.ok (AZ Ce _) O O λhn_cp_c=>Ak 3 IB O ?_))))))))
 refine C3 (args:=[(aG ([(qz cp.a.p ps.length ps.length),(qz cp.b.p ts.length ts.length),(qz cp.c.p ss.length ss.length)])),(aG ([(vN a),(vN b),(vN p),(vN q)]))]) (v:=(Value.tuple #[(aG ([(vN a),(vN b),(vN p),(vN q),(vN c),(vN d)])),(qa true)])) call49 (λw hw=>(by have h9:=Li (⟨⟨cp.a.p,ps.length,cp.a.ok.clip⟩,⟨cp.b.p,ts.length,cp.b.ok.clip⟩,⟨cp.c.p,ss.length,cp.c.ok.clip⟩⟩:MN ps ts ss) (Dh ts u v) (HK hed) hnb hN w (Vk (Lp (CL (S:=S) hw 2 O (At.new hn_cp_a))) (Qr hw 1 O cp.b.ok (AZ Av _) cp.b.ok.clip) (Lp (CL (S:=S) hw 0 O (At.new hn_cp_c))));rw [(Cu h2).1,(Cu h2).2,hE] at h9;exact h9)) O (AL O (AD (AJ (v:=(aG ([(vN a),(vN b),(vN p),(vN q),(vN c),(vN d)]))) O O) O (AD (AJ (v:=(qa true)) O O) O (al Lv O λb4=>Ah O sizeOf127 O (asg' O (q3 (sL [3,6,7,8,10,11] O) (AL O (AD (BE (c:=false) O O) O (AL O (BI (v:=(aG ([(vN a),(vN b),(vN p),(vN q),(vN c),(vN d)]))) O (Ad (i:=0) (vs:=[(vN a),(vN b),(vN p),(vN q),(vN c),(vN d)]) O O G4.a G4.s O O) ?_))))))))))
 refine BI (v:=(aG ([(qz cp.a.p ps.length ps.length),(qz cp.b.p ts.length ts.length),(qz cp.c.p ss.length ss.length)]))) O (Ad (i:=6) (vs:=[(qz cp.a.p ps.length ps.length),(qz cp.b.p ts.length ts.length),(qz cp.c.p ss.length ss.length)]) O O BY.a BY.s O O) (yS (v:=qa false) (α:=Unit) (K:=λ_=>True) (LO:=λ_=>[AY b4 127 ([(vN a),(vN b),(vN p),(vN q),(vN c),(vN d)]),AN cp.c.p (rowsL BU ss),rowW cp.b.p 71 3 ts.length cp.b.c (rowsL Af ts),AN cp.a.p (rowsL Aa ps),AY b3 54 ([(vN a),(vN b),(vN p),(vN q)]),AY b2 34 ([jj,jj,jj]),AY b1 34 ([(qz cp.a.p ps.length ps.length),(qz cp.b.p ts.length ts.length),(qz cp.c.p ss.length ss.length)]),AN x.a.p (rowsL Aa ps),AN x.b.p (rowsL Af ts),AN x.c.p (rowsL BU ss)]) (AU O) (Dn (args:=[(aG ([(vN a),(vN b),(vN p),(vN q),(vN c),(vN d)])),(aG ([(qz cp.a.p ps.length ps.length),(qz cp.b.p ts.length ts.length),(qz cp.c.p ss.length ss.length)]))]) (caps:=[]) (all:=[(aG ([(vN a),(vN b),(vN p),(vN q),(vN c),(vN d)])),(aG ([(qz cp.a.p ps.length ps.length),(qz cp.b.p ts.length ts.length),(qz cp.c.p ss.length ss.length)]))]) O O O call51) (Cv [2,3,0,1,4,5,6,7,8,9] (show List.Perm [2,3,0,1,4,5,6,7,8,9] (List.range 10) by decide) O) (λw hw=>(Ns ps ts a b p q c d h2a h2b h2c h2d h2.pl h2.ql hN htl hz cp.a.p cp.b.p cp.c.p ps.length cp.b.c ts.length ss.length ss.length cp.b.ok cp.b.ok.clip cp.a.ok.clip w (LR:=[AY b4 127 ([(vN a),(vN b),(vN p),(vN q),(vN c),(vN d)]),AN cp.c.p (rowsL BU ss),AY b3 54 ([(vN a),(vN b),(vN p),(vN q)]),AY b2 34 ([jj,jj,jj]),AY b1 34 ([(qz cp.a.p ps.length ps.length),(qz cp.b.p ts.length ts.length),(qz cp.c.p ss.length ss.length)]),AN x.a.p (rowsL Aa ps),AN x.b.p (rowsL Af ts),AN x.c.p (rowsL BU ss)]) hw).mono λe w' ⟨h1,t,h3,h4⟩=>(by rw [KE hB] at h4;exact ⟨by rw [h1,hB],t,h3,h4.perm (Cv [2,3,0,1,4,5,6,7,8,9] (show List.Perm [2,3,0,1,4,5,6,7,8,9] (List.range 10) by decide) O)⟩)) (λd hd=>by cases hd<;>exact (A_ O)) λ_ _=>BI (v:=(qa true)) O (BE (c:=true) O O) (AD (v:=(qa true)) (AP O O) O (oNl' (zB (sL [3,6,7,8,10,37] O) (zA (zV O (q4 (AD (v:=(aG ([jj,jj,jj]))) (AQ (zs:=[jj,jj,jj]) (vs:=[jj,jj,jj]) (pv:=[]) (places:=[(0,1),(1,1),(2,1)]) zeroValue34 underlying34 (λw=>by simp [sizeOf28,sizeOf29,sizeOf32]) O (FG )) O (Fj 5 (off:=0) (vs:=[jj,jj,jj]) (cs':=[jj,jj,jj]) (AI O) O sizeOf34 O (asg' O ?_))))))))))
 exact oNl' (zB (sL [3,6,7,8,10] O) (zA (zG (zJ (Bs O (An (i:=5) (cs:=[jj,jj,jj]) O O isAgg34 sizeOf34 O) (rd_tmp (v:=(vI 7)) O) (λw hw=>(Qq hw 7 O)))))))
theorem Tv {ps:List Pt} {ts:List T3} {ss:List Z3} (x:MN ps ts ss) (u v:Int) (hnb:Ba ps.length ts=true) (htl:ts.length<=1000000) (hN:ps.length<=1000000) (hsl:ss.length<=1000000) (hz:∀i,Bl (cor ps i)<=200000) (hed:0<=GF ts u v) (a b p q c d:Nat) (h2:IJ ps.length ts (Dh ts u v) p q c d) (hE:Dh ts u v=⟨a,b,(p:Int),(q:Int)⟩) (hB:Db ps a b c d=true) (w:World) {S:Nat->Prop} (hx:Ro S w x):Calls prog 19 #[(aG (CG x)),(vI u),(vI v)] w (BP (Tf ps (CF ts a b p q c d) ss 0) S w):=by
 have h2a:a<ps.length:=by have h9:=h2.sc.a;rw [hE] at h9;exact h9
 have h2b:b<ps.length:=by have h9:=h2.sc.b;rw [hE] at h9;exact h9
 have h2c:=h2.sc.c
 have h2d:=h2.sd.c
 have lx:=DT (W:=w) hx
 refine Ag (args:=[(aG (CG x)),(vI u),(vI v)]) (L:=[AN x.a.p (rowsL Aa ps),AN x.b.p (rowsL Af ts),AN x.c.p (rowsL BU ss)]) func19 O O (A_ O) (DU hx Az) (zM (sL [0,1,2] O) (q4 (BV (cs:=CG x) O λb1=>al G6 O λb2=>asg' O (q3 (sL [1,2,3,6,7] O) (Ak 1 BY O (AL O (AL O (C3 (args:=[(aG (CG x)),(vI u),(vI v)]) (v:=(Value.tuple #[(aG ([(vN a),(vN b),(vN p),(vN q)])),(qa true)])) call48 (λw hw=>(by have h9:=IS x u v hnb htl hN w (CL hw 2 O lx);rw [xI hed,hE] at h9;exact h9)) O (AL O ?_)))))))))
 refine AD (AJ (v:=(aG ([(vN a),(vN b),(vN p),(vN q)]))) O O) O (AD (AJ (v:=(qa true)) O O) O (al JN O λb3=>Ah O sizeOf54 O (asg' O (q6 (sL [3,6,7,8,9] O) (q4 (AL O (AD (BE (c:=false) O O) O (oNl' (zB (sL [3,6,7,8,20] O) (zA ?_))))))))))
 refine zS O (zC (q2 (Ak 2 BY O (yH (S:=S) (V:=λa:XN ps ts ss=>aG (Zw a)) (LW:=Zx) (args:=[(aG (CG x))]) call27 (λw hw=>Gh x Z Z Z w (CL hw 3 O lx)) O λcp hcp=>Fj 5 (off:=0) (vs:=[(qz cp.a.p ps.length ps.length),(qz cp.b.p ts.length ts.length),(qz cp.c.p ss.length ss.length)]) (cs':=[(qz cp.a.p ps.length ps.length),(qz cp.b.p ts.length ts.length),(qz cp.c.p ss.length ss.length)]) (AI O) O sizeOf34 O (q6 (sL [3,6,7,8] O) (q4 (Ak 5 BY O (zx 2 O cp.a.ok (AZ Ap _) O O λhn_cp_a=>zx 0 O cp.c.ok (AZ Ce _) O O λhn_cp_c=>Ak 3 IB O ?_))))))))
 refine C3 (args:=[(aG ([(qz cp.a.p ps.length ps.length),(qz cp.b.p ts.length ts.length),(qz cp.c.p ss.length ss.length)])),(aG ([(vN a),(vN b),(vN p),(vN q)]))]) (v:=(Value.tuple #[(aG ([(vN a),(vN b),(vN p),(vN q),(vN c),(vN d)])),(qa true)])) call49 (λw hw=>(by have h9:=Li (⟨⟨cp.a.p,ps.length,cp.a.ok.clip⟩,⟨cp.b.p,ts.length,cp.b.ok.clip⟩,⟨cp.c.p,ss.length,cp.c.ok.clip⟩⟩:MN ps ts ss) (Dh ts u v) (HK hed) hnb hN w (Vk (Lp (CL (S:=S) hw 2 O (At.new hn_cp_a))) (Qr hw 1 O cp.b.ok (AZ Av _) cp.b.ok.clip) (Lp (CL (S:=S) hw 0 O (At.new hn_cp_c))));rw [(Cu h2).1,(Cu h2).2,hE] at h9;exact h9)) O (AL O (AD (AJ (v:=(aG ([(vN a),(vN b),(vN p),(vN q),(vN c),(vN d)]))) O O) O (AD (AJ (v:=(qa true)) O O) O (al Lv O λb4=>Ah O sizeOf127 O (asg' O (q3 (sL [3,6,7,8,10,11] O) (AL O (AD (BE (c:=false) O O) O (AL O (BI (v:=(aG ([(vN a),(vN b),(vN p),(vN q),(vN c),(vN d)]))) O (Ad (i:=0) (vs:=[(vN a),(vN b),(vN p),(vN q),(vN c),(vN d)]) O O G4.a G4.s O O) ?_))))))))))
 refine BI (v:=(aG ([(qz cp.a.p ps.length ps.length),(qz cp.b.p ts.length ts.length),(qz cp.c.p ss.length ss.length)]))) O (Ad (i:=6) (vs:=[(qz cp.a.p ps.length ps.length),(qz cp.b.p ts.length ts.length),(qz cp.c.p ss.length ss.length)]) O O BY.a BY.s O O) (yS (v:=qa true) (α:=Unit) (K:=λ_=>True) (LO:=λ_=>[AY b4 127 ([(vN a),(vN b),(vN p),(vN q),(vN c),(vN d)]),AN cp.c.p (rowsL BU ss),rowW cp.b.p 71 3 ts.length cp.b.c (rowsL Af (CF ts a b p q c d)),AN cp.a.p (rowsL Aa ps),AY b3 54 ([(vN a),(vN b),(vN p),(vN q)]),AY b2 34 ([jj,jj,jj]),AY b1 34 ([(qz cp.a.p ps.length ps.length),(qz cp.b.p ts.length ts.length),(qz cp.c.p ss.length ss.length)]),AN x.a.p (rowsL Aa ps),AN x.b.p (rowsL Af ts),AN x.c.p (rowsL BU ss)]) (AU O) (Dn (args:=[(aG ([(vN a),(vN b),(vN p),(vN q),(vN c),(vN d)])),(aG ([(qz cp.a.p ps.length ps.length),(qz cp.b.p ts.length ts.length),(qz cp.c.p ss.length ss.length)]))]) (caps:=[]) (all:=[(aG ([(vN a),(vN b),(vN p),(vN q),(vN c),(vN d)])),(aG ([(qz cp.a.p ps.length ps.length),(qz cp.b.p ts.length ts.length),(qz cp.c.p ss.length ss.length)]))]) O O O call51) (Cv [2,3,0,1,4,5,6,7,8,9] (show List.Perm [2,3,0,1,4,5,6,7,8,9] (List.range 10) by decide) O) (λw hw=>(Ns ps ts a b p q c d h2a h2b h2c h2d h2.pl h2.ql hN htl hz cp.a.p cp.b.p cp.c.p ps.length cp.b.c ts.length ss.length ss.length cp.b.ok cp.b.ok.clip cp.a.ok.clip w (LR:=[AY b4 127 ([(vN a),(vN b),(vN p),(vN q),(vN c),(vN d)]),AN cp.c.p (rowsL BU ss),AY b3 54 ([(vN a),(vN b),(vN p),(vN q)]),AY b2 34 ([jj,jj,jj]),AY b1 34 ([(qz cp.a.p ps.length ps.length),(qz cp.b.p ts.length ts.length),(qz cp.c.p ss.length ss.length)]),AN x.a.p (rowsL Aa ps),AN x.b.p (rowsL Af ts),AN x.c.p (rowsL BU ss)]) hw).mono λe w' ⟨h1,t,h3,h4⟩=>(by rw [LC hB] at h4;exact ⟨by rw [h1,hB],t,h3,h4.perm (Cv [2,3,0,1,4,5,6,7,8,9] (show List.Perm [2,3,0,1,4,5,6,7,8,9] (List.range 10) by decide) O)⟩)) (λd hd=>by cases hd<;>exact (A_ O)) λ_ _=>BI (v:=(qa false)) O (BE (c:=false) O O) (AD (v:=(qa false)) (AP O O) O (oNl' (zB (sL [3,6,7,8,10,37] O) (zA (zS O (zC (q2 (Ak 6 BY O (zx 2 O cp.b.ok (by rw [AZ Av,Ca]) O O λhn_cp_b=>?_))))))))))
 exact Fj 5 (off:=0) (vs:=[(qz cp.a.p ps.length ps.length),(qz cp.b.p ts.length ts.length),(qz cp.c.p ss.length ss.length)]) (cs':=[(qz cp.a.p ps.length ps.length),(qz cp.b.p ts.length ts.length),(qz cp.c.p ss.length ss.length)]) (AI O) O sizeOf34 O (asg' O (oNl' (zB (sL [3,6,7,8,10] O) (zA (zG (Bs O (An (i:=5) (cs:=[(qz cp.a.p ps.length ps.length),(qz cp.b.p ts.length ts.length),(qz cp.c.p ss.length ss.length)]) O O isAgg34 sizeOf34 O) (rd_tmp (v:=(vI 0)) O) (λw hw=>(retR hw (a:=(⟨(⟨⟨cp.a.p,ps.length,cp.a.ok.clip⟩,⟨cp.b.p,ts.length,(Ca (ts:=ts) (a:=a) (b:=b) (p:=p) (q:=q) (c:=c) (d:=d)).symm▸cp.b.ok.clip⟩,⟨cp.c.p,ss.length,cp.c.ok.clip⟩⟩:MN ps (CF ts a b p q c d) ss)⟩:Tf ps (CF ts a b p q c d) ss 0)) (inX hw [3,2,1] O (At.mn (At.new hn_cp_a) (At.new hn_cp_b) (At.new hn_cp_c))) (by show _=Value.tuple #[aG [.slice cp.a.p ps.length ps.length,.slice cp.b.p (CF ts a b p q c d).length ts.length,.slice cp.c.p ss.length ss.length],vN 0];rw [Ca];rfl)))))))))
theorem XQ {ps:List Pt} {ts:List T3} {ss:List Z3} (x:MN ps ts ss) (u v:Int) (hnb:Ba ps.length ts=true) (htl:ts.length<=1000000) (hN:ps.length<=1000000) (hsl:ss.length<=1000000) (hz:∀i,Bl (cor ps i)<=200000) (w:World) {S:Nat->Prop} (hx:Ro S w x):Calls prog 19 #[(aG (CG x)),(vI u),(vI v)] w (BP (Tf (X2 ps ts u v) (X4 ps ts u v) (X3 ps ts ss u v) (XA ps ts u v)) S w):=by
 rcases (by omega:GF ts u v<0\/0<=GF ts u v) with h|h
 ·have h1:=U6 (ps:=ps) h
  rw [(IV (ss:=ss) h1.1).1,(IV (ss:=ss) h1.1).2.1,(IV (ss:=ss) h1.1).2.2,h1.2]
  exact Ts x u v hnb htl hN hsl h w hx
 ·by_cases hb:CZ (Dh ts u v)=true
  ·obtain ⟨g1,g2⟩:=Ez.1 hb
   obtain ⟨p,q,c,d,h2⟩:=JP hnb Z (HK h) g1 g2
   have e1:=X1 h h2
   cases hB:Db ps (Dh ts u v).a (Dh ts u v).b c d with
   | false =>
    rw [hB] at e1
    rw [(IV (ss:=ss) e1.1).1,(IV (ss:=ss) e1.1).2.1,(IV (ss:=ss) e1.1).2.2,U7 h,e1.1]
    exact Tu x u v hnb htl hN hsl hz h _ _ p q c d h2 h2.mk4 hB w hx
   | true =>
    rw [hB] at e1
    rw [(QH (ss:=ss) e1.1).1,(QH (ss:=ss) e1.1).2.1,(QH (ss:=ss) e1.1).2.2,U7 h,e1.1,e1.2]
    exact Tv x u v hnb htl hN hsl hz h _ _ p q c d h2 h2.mk4 hB w hx
  ·rw [Bool.not_eq_true] at hb
   have h1:=X0 (ps:=ps) h hb
   rw [(IV (ss:=ss) h1.1).1,(IV (ss:=ss) h1.1).2.1,(IV (ss:=ss) h1.1).2.2,h1.2]
   exact Tt x u v hnb htl hN hsl h hb w hx
end
section
def Ed (p:Pt):Rat:=B0 (p-(⟨0,0⟩:Pt)) (p-(⟨0,0⟩:Pt))
def ZY (ps:List Pt) (t:T3):Rat:=Ed (cor ps t.1)+Ed (cor ps t.2.1)+Ed (cor ps t.2.2)
def Ib (ps:List Pt) (t:T3):Rat:=F7 ps t*ZY ps t
def Gu (ps:List Pt) (ts:List T3):Nat->Rat
  | 0=>0
  | i+1=>Gu ps ts i+Ib ps (ts.getD i (0,0,0))
def DE (ps:List Pt) (ts:List T3):Rat:=Gu ps ts ts.length*(((1:Int):Rat)/((3:Int):Rat))
theorem JM {p:Pt} (h:Bl p<=1000):Sz (Ed p)<=4100:=by
  have h1:=Dy p (⟨0,0⟩:Pt)
  have h2:=Kf (p-(⟨0,0⟩:Pt)) (p-(⟨0,0⟩:Pt))
  have h3:Bl (⟨0,0⟩:Pt)<=10:=by decide +kernel
  unfold Ed;omega
section
variable {ps:List Pt} (hz:∀k,Bl (cor ps k)<=1000)
include hz
theorem Wf (t:T3):Sz (ZY ps t)<=12302:=by
  have h1:=JM (hz t.1)
  have h2:=JM (hz t.2.1)
  have h3:=JM (hz t.2.2)
  have h4:=Eh (Ed (cor ps t.1)) (Ed (cor ps t.2.1))
  have h5:=Eh (Ed (cor ps t.1)+Ed (cor ps t.2.1)) (Ed (cor ps t.2.2))
  unfold ZY;omega
theorem Rk (t:T3):Sz (Ib ps t)<=20311:=by
  have h1:=KZ hz t
  have h2:=Wf hz t
  have h3:=Cz (F7 ps t) (ZY ps t)
  unfold Ib;omega
theorem KK (ts:List T3):∀i,Sz (Gu ps ts i)<=2+i*20312
  | 0=>by show Sz (0:Rat)<=2+0*20312;decide +kernel
  | i+1=>by
    have h:=KK ts i
    have h1:=Rk hz (ts.getD i (0,0,0))
    have h4:=Eh (Gu ps ts i) (Ib ps (ts.getD i (0,0,0)))
    show Sz (Gu ps ts i+Ib ps (ts.getD i (0,0,0)))<=_
    omega
end
theorem PK {ps:List Pt} {ts:List T3} (h:nexV ps ts=false):Cj ps ts=ts:=by
  unfold nexV at h
  unfold Cj
  split
  · rfl
  · rename_i h1
    rw [if_neg h1] at h
    exact KE h
structure DlN (ps:List Pt) (ts:List T3) (ss:List Z3) (n e:Nat) where
  x:MN ps ts ss
instance {ps:List Pt} {ts:List T3} {ss:List Z3} {n e:Nat}:Cy (DlN ps ts ss n e):=⟨λr=>.tuple #[aG (CG r.x),vN n,vN e],λr=>[r.x.a.row,r.x.b.row,r.x.c.row],λr y hy=>Vl hy⟩
theorem PI {ps:List Pt} {ts ss:List T3} (x:MX ps ts ss):∃y:MN ps ts (ss.map D7),CG y=Cf x/\∀{S:Nat->Prop} {w:World},Ro S w x->Ro S w y:=by
  obtain ⟨a,b,⟨cp,cc,cok⟩⟩:=x
  have hk:ss.length=(ss.map D7).length:=(xK _).symm
  refine ⟨⟨a,b,⟨cp,cc,hk▸cok⟩⟩,?_,λ{S w} h y hy=>?_⟩
  · show [a.val,b.val,qz cp (ss.map D7).length cc]=[a.val,b.val,qz cp ss.length cc]
    rw [xK]
  · have hy:y∈[a.row,b.row,AN cp (rowsL BU (ss.map D7))]:=hy
    rw [<-E6] at hy
    exact h y hy
def CD:List Pt:=[⟨0,0⟩,⟨2,-1⟩,⟨4,0⟩,⟨2,1⟩]
def Dc:List T3:=[(0,1,2),(0,2,3)]
def DD:List T3:=[(1,2,3),(0,1,3)]
def YN:List T3:=[(0,1,0),(0,3,0),(1,2,0),(2,3,0)]
def Gs:List Z3:=YN.map D7
theorem N4 (i:Nat):Bl (cor CD i)<=1000:=a8 (by decide +kernel) (by decide +kernel) i
theorem Ia (i:Nat):Bl (cor CD i)<=200000:=xM (N4 i) jY
theorem aF:∀i,i<Dc.length->∀k,k<i->(!Dw (Bd CD (Dc.getD i (0,0,0))) (Bd CD (Dc.getD k (0,0,0)))&&!Dw (Bd CD (Dc.getD k (0,0,0))) (Bd CD (Dc.getD i (0,0,0))))=false:=by decide +kernel
theorem aH:∀i,i<Dc.length->∀p,p<CD.length->B4 (Dc.getD i (0,0,0)) p=false->JR CD (cor CD p) (Dc.getD i (0,0,0))=0:=by decide +kernel
theorem YO:Eo CD Dc YN:=by
  refine ⟨by decide,by decide,by decide,by decide,N4,by decide +kernel,by decide +kernel,by decide +kernel,λp hp=>?_,by decide +kernel,λi k hi hk=>aF i hi k hk,λi p hi hp=>aH i hi p hp,by decide +kernel,by decide +kernel⟩
  have hp:p<4:=hp
  have e:p=0\/p=1\/p=2\/p=3:=by omega
  rcases e with rfl|rfl|rfl|rfl
  · exact ⟨0,by decide,by decide +kernel⟩
  · exact ⟨0,by decide,by decide +kernel⟩
  · exact ⟨0,by decide,by decide +kernel⟩
  · exact ⟨1,by decide,by decide +kernel⟩
theorem LS:Ba CD.length Dc=true:=by decide +kernel
theorem VV:Ba CD.length DD=true:=by decide +kernel
theorem VU:XE CD Dc 2 0=false/\XF Dc 2 0=0:=by decide +kernel
theorem aK:X2 CD Dc 0 2=CD/\X4 CD Dc 0 2=DD/\X3 CD Dc Gs 0 2=Gs/\XA CD Dc 0 2=0:=by decide +kernel
theorem aI:X2 CD Dc 0 1=[]/\X4 CD Dc 0 1=[]/\X3 CD Dc Gs 0 1=[]/\XA CD Dc 0 1=7:=by decide +kernel
theorem aJ:X2 CD Dc 1 3=[]/\X4 CD Dc 1 3=[]/\X3 CD Dc Gs 1 3=[]/\XA CD Dc 1 3=1:=by decide +kernel
theorem QO:nexV CD Dc=true/\Cj CD Dc=DD/\nexV CD DD=false:=by decide +kernel
theorem QM:DE CD Dc=28:=by decide +kernel
theorem QN:DE CD DD=24:=by decide +kernel
theorem Vr {ps:List Pt} {ts ss:List T3} (x:MX ps ts ss):∃y:MN ps ts (ss.map D7),CG y=Cf x/\(∀{S:Nat->Prop} {w:World},Ro S w x->Ro S w y)/\∀{S:Nat->Prop} {w:World},Ro S w y->Ro S w x:=by
  obtain ⟨a,b,⟨cp,cc,cok⟩⟩:=x
  have hk:ss.length=(ss.map D7).length:=(xK _).symm
  refine ⟨⟨a,b,⟨cp,cc,hk▸cok⟩⟩,?_,λ{S w} h y hy=>?_,λ{S w} h y hy=>?_⟩
  · show [a.val,b.val,qz cp (ss.map D7).length cc]=[a.val,b.val,qz cp ss.length cc]
    rw [xK]
  · have hy:y∈[a.row,b.row,AN cp (rowsL BU (ss.map D7))]:=hy
    rw [<-E6] at hy
    exact h y hy
  · have hy:y∈[a.row,b.row,AN cp (rowsL Af ss)]:=hy
    rw [E6 ss] at hy
    exact h y hy
end
section
set_option maxRecDepth 100000
theorem Ob {ps:List Pt} {ts:List T3} {ss:List Z3} (x:MN ps ts ss) (t:Nat) (ht:t<ts.length) (hk:Ig ps.length (ts.getD t (0,0,0))=true) (w:World) {S:Nat->Prop} (hx:Ro S w x):Calls prog 55 #[(aG (CG x)),(vN t)] w (Ac w (Value.tuple #[(aG (Aa (cor ps (ts.getD t (0,0,0)).1))),(aG (Aa (cor ps (ts.getD t (0,0,0)).2.1))),(aG (Aa (cor ps (ts.getD t (0,0,0)).2.2)))])):=by
 obtain ⟨k1,k2,k3⟩:=Ct hk
 have lx:=DT (W:=w) hx
 refine Ag (args:=[(aG (CG x)),(vN t)]) (L:=[AN x.a.p (rowsL Aa ps),AN x.b.p (rowsL Af ts),AN x.c.p (rowsL BU ss)]) func55 O O (A_ O) (DU hx Az) (zM (sL [0,1] O) (q4 (BV (cs:=CG x) O λb1=>al Em O λb2=>al Em O λb3=>al Em O λb4=>q6 (sL [1,2,4,5,6] O) (q4 (AL O (AD (Ab (c:=false) O O jX) O (AL O ?_)))))))
 refine Gq O (BI (v:=(pP b1 1)) O (AA O underlying34 O sizeOf28 O) (BI (v:=(qz x.b.p ts.length x.b.c)) O (AH (i:=3) (v:=(qz x.b.p ts.length x.b.c)) O O C5.a O) (BI (v:=(vN ts.length)) O (AE O underlying28) (BI (v:=(qa false)) O (D1 (c:=false) O O (by simp;omega)) (AD (v:=(qa false)) (AP O O) O (oNl' (zB (sL [1,2,4,5,6,17] O) (zA (zS O (zC (q1 ?_)))))))))))
 refine C8 (El 8++[(8,false),(9,false),(10,true)]) sr (Al (v:=(pP b1 1)) O (AA O underlying34 O sizeOf28 O) (BQ 3 (qz x.b.p ts.length x.b.c) C5 O (Bp O (Al (v:=(pP (pB x.b.p) (pO x.b.p+t*3))) O (AO (j:=t) O O x.b.ok underlying28 sizeOf71 O Z) (Al (v:=(aG (Af (ts.getD t jJ)))) O (AM (vs:=Af (ts.getD t jJ)) (i:=5) O O (A8.ne x.b.ok Z) Ec (Ae Av _ _ _ Z) (Av _)) (Al (v:=(pP b1 0)) O (AA O underlying34 O sizeOf32 O) (BQ 3 (qz x.a.p ps.length x.a.c) C2 O (Al (v:=(vN ps.length)) O (AE O underlying32) (zN O (al J1 O λb5=>zD (sl sr) ?_))))))))))
 refine zN O (Ah O sizeOf71 O (zD (sl sr) (pS' O (zQ (zB (sL [1,2,4,5,6,7,8] O) (q1 (q4 (AD (v:=(pP b5 0)) (AB (j:=0) O O underlying71 sizeOf3 O jY O) O (BG 0 (vN ((ts.getD t jJ).1)) Bk O (AL O (C3 (args:=[(vN ((ts.getD t jJ).1)),(vN ps.length)]) (v:=(qa true)) call117 (λw hw=>(by have h9:=Cc ((ts.getD t jJ).1) ps.length w;rw [xI Z] at h9;exact h9)) O ?_)))))))))))
 refine AD (BE (c:=false) O O) O (AL O (BI (v:=(pP b5 1)) O (AB (j:=1) O O underlying71 sizeOf3 O jY O) (BI (v:=(vN ((ts.getD t jJ).2.1))) O (AH (i:=0) (v:=(vN ((ts.getD t jJ).2.1))) O O Bk.a O) (Gq O (zg (v:=(qa true)) (AU O) (Am (args:=[(vN ((ts.getD t jJ).2.1)),(vN ps.length)]) O O call117) (λw hw=>(by have h9:=Cc ((ts.getD t jJ).2.1) ps.length w;rw [xI Z] at h9;exact h9)) O (A_ O) (BI (v:=(qa false)) O (BE (c:=false) O O) (AD (v:=(qa false)) (AP O O) O (AL O (BI (v:=(pP b5 2)) O (AB (j:=2) O O underlying71 sizeOf3 O jY O) (BI (v:=(vN ((ts.getD t jJ).2.2))) O (AH (i:=0) (v:=(vN ((ts.getD t jJ).2.2))) O O Bk.a O) (Gq O ?_)))))))))))
 refine zg (v:=(qa true)) (AU O) (Am (args:=[(vN ((ts.getD t jJ).2.2)),(vN ps.length)]) O O call117) (λw hw=>(by have h9:=Cc ((ts.getD t jJ).2.2) ps.length w;rw [xI Z] at h9;exact h9)) O (A_ O) (BI (v:=(qa false)) O (BE (c:=false) O O) (AD (v:=(qa false)) (AP O O) O (oNl' (zB (sL [1,2,4,5,6,7,47] O) (zA (zS O (zC (q1 (C8 (El 18++[(18,false),(19,false),(20,false)]) (sk (sl (sl (sl sr)))) (Al (v:=(pP b1 0)) O (AA O underlying34 O sizeOf32 O) (BQ 1 (qz x.a.p ps.length x.a.c) C2 O ?_)))))))))))
 refine Al (v:=(pP b5 0)) O (AB (j:=0) O O underlying71 sizeOf3 O jY O) (BQ 0 (vN ((ts.getD t jJ).1)) Bk O (Al (v:=(pP (pB x.a.p) (pO x.a.p+((ts.getD t jJ).1)*10))) O (AO (j:=(ts.getD t jJ).1) O O x.a.ok underlying32 sizeOf78 O Z) (Al (v:=(aG (Aa (ps.getD ((ts.getD t jJ).1) (⟨0,0⟩:Pt))))) O (AM (vs:=Aa (ps.getD ((ts.getD t jJ).1) (⟨0,0⟩:Pt))) (i:=2) O O (A8.ne x.a.ok Z) A9 (Ae Ap _ _ _ Z) (Ap _)) (Al (v:=(pP b1 0)) O (AA O underlying34 O sizeOf32 O) (BQ 1 (qz x.a.p ps.length x.a.c) C2 O (Al (v:=(pP b5 1)) O (AB (j:=1) O O underlying71 sizeOf3 O jY O) (BQ 0 (vN ((ts.getD t jJ).2.1)) Bk O (Al (v:=(pP (pB x.a.p) (pO x.a.p+((ts.getD t jJ).2.1)*10))) O (AO (j:=(ts.getD t jJ).2.1) O O x.a.ok underlying32 sizeOf78 O Z) (Al (v:=(aG (Aa (ps.getD ((ts.getD t jJ).2.1) (⟨0,0⟩:Pt))))) O (AM (vs:=Aa (ps.getD ((ts.getD t jJ).2.1) (⟨0,0⟩:Pt))) (i:=2) O O (A8.ne x.a.ok Z) A9 (Ae Ap _ _ _ Z) (Ap _)) (Al (v:=(pP b1 0)) O (AA O underlying34 O sizeOf32 O) (BQ 1 (qz x.a.p ps.length x.a.c) C2 O ?_)))))))))))
 refine Al (v:=(pP b5 2)) O (AB (j:=2) O O underlying71 sizeOf3 O jY O) (BQ 0 (vN ((ts.getD t jJ).2.2)) Bk O (Al (v:=(pP (pB x.a.p) (pO x.a.p+((ts.getD t jJ).2.2)*10))) O (AO (j:=(ts.getD t jJ).2.2) O O x.a.ok underlying32 sizeOf78 O Z) (Al (v:=(aG (Aa (ps.getD ((ts.getD t jJ).2.2) (⟨0,0⟩:Pt))))) O (AM (vs:=Aa (ps.getD ((ts.getD t jJ).2.2) (⟨0,0⟩:Pt))) (i:=2) O O (A8.ne x.a.ok Z) A9 (Ae Ap _ _ _ Z) (Ap _)) (zN O (Fi O sizeOf78 O (zD (sk (sl (sl (sl sr)))) (zN O (Ls O sizeOf78 O (zD (sk (sl (sl (sl sr)))) (zN O (CM O sizeOf78 O ?_)))))))))))
 exact zD (sk (sl (sl (sl sr)))) (zQ (zB (sL [1,2,4,5,6,7] O) (zA (zG (Du O (An (i:=3) (cs:=Aa (ps.getD ((ts.getD t jJ).1) (⟨0,0⟩:Pt))) O O isAgg78 sizeOf78 O) (An (i:=2) (cs:=Aa (ps.getD ((ts.getD t jJ).2.1) (⟨0,0⟩:Pt))) O O isAgg78 sizeOf78 O) (An (i:=1) (cs:=Aa (ps.getD ((ts.getD t jJ).2.2) (⟨0,0⟩:Pt))) O O isAgg78 sizeOf78 O) (λw hw=>⟨rfl,hw.out⟩))))))
theorem K6  :Instr.fill ([(0,3),(3,2)].toArray[·]?) (AF (0:Rat)).toArray []=some (AF (0:Rat)).toArray:=by kernel_rfl
theorem K7  :Instr.fill ([(0,5),(5,5)].toArray[·]?) (Aa (⟨0,0⟩:Pt)).toArray []=some (Aa (⟨0,0⟩:Pt)).toArray:=by kernel_rfl
set_option maxHeartbeats 1000000 in
theorem RA {ps:List Pt} {ts:List T3} {ss:List Z3} (x:MN ps ts ss) (htl:ts.length<=8192) (hN:ps.length<=1000000) (hz:∀k,Bl (cor ps k)<=1000) (hnb:Ba ps.length ts=true) (w:World) {S:Nat->Prop} (hx:Ro S w x):Calls prog 21 #[(aG (CG x))] w (Ac w (aG (AF (DE ps ts)))):=by
 have lx:=DT (W:=w) hx
 refine Ag (args:=[(aG (CG x))]) (L:=[AN x.a.p (rowsL Aa ps),AN x.b.p (rowsL Af ts),AN x.c.p (rowsL BU ss)]) func21 O O (A_ O) (DU hx Az) (zM (sL [0] O) (q4 (BV (cs:=CG x) O λb1=>al DO O λb2=>q3 (sL [1,2] O) (AD (v:=(aG (AF (0:Rat)))) (AQ (zs:=AF (0:Rat)) (vs:=AF (0:Rat)) (pv:=[]) (places:=[(0,3),(3,2)]) zeroValue68 underlying68 (λw=>by simp [sizeOf62,sizeOf66]) O (K6 )) O (AD (v:=(aG (Aa (⟨0,0⟩:Pt)))) (AQ (zs:=Aa (⟨0,0⟩:Pt)) (vs:=Aa (⟨0,0⟩:Pt)) (pv:=[]) (places:=[(0,5),(5,5)]) zeroValue78 underlying78 (λw=>by simp [sizeOf68]) O (K7 )) O (al DO O λb3=>al Em O λb4=>CM O sizeOf68 O (Ah O sizeOf78 O ?_)))))))
 refine q6 (sL [1,2,3,4] O) (q4 (Ak 3 BY O (C3 (args:=[(aG (CG x))]) (v:=(qa true)) call46 (λw hw=>(by obtain ⟨y2,hy2,hro⟩:=Rp x;have h9:=T_ y2.rq (by rw [xK];omega) w (d7 (hro (CL hw 4 O lx)));rw [S2,hnb,show cS y2.rq=CG x from hy2] at h9;exact h9)) O (AD (BE (c:=false) O O) O (oNl' (zB (sL [1,2,3,4,16] O) (zA (zS O (zC (q1 (q4 ?_)))))))))))
 refine AD (v:=(pP b1 1)) (AA O underlying34 O sizeOf28 O) O (BG 3 (qz x.b.p ts.length x.b.c) C5 O (AD (v:=(vN ts.length)) (AE O underlying28) O (AL O (oNl' (zB (sL [1,2,3,4,20,21] O) (zA (zI ?_)))))))
 refine zy (tg λ(i:Nat)=>i<=ts.length) (tg λ(i:Nat)=>[(1,(pP b1 0)),(2,(pP b2 0)),(3,(pP b3 0)),(4,(pP b4 0)),(20,(vN ts.length)),(21,(vN i))]) (tg λ(i:Nat)=>[AY b4 78 (Aa (⟨0,0⟩:Pt)),AY b3 68 (AF (Gu ps ts i)),AY b2 68 (AF (0:Rat)),AY b1 34 (CG x),AN x.a.p (rowsL Aa ps),AN x.b.p (rowsL Af ts),AN x.c.p (rowsL BU ss)]) (tg λ(i:Nat)=>ts.length-i) 0 (xJ _) (sF O) sr (λi hJ=>?_)
 have hi:=hJ
 refine q4 (AD (Ab (c:=(decide (i<ts.length))) O O (DA (a:=i) (b:=ts.length))) O (oNl' (q1 ?_)))
 refine zK O (λhc1=>?_) (λhc1=>?_)
 ·replace hc1:=xT hc1
  have hi2:=hc1
  have z0:Bl (⟨0,0⟩:Pt)<=10:=by decide +kernel
  have z1:=hz (ts.getD i (0,0,0)).1
  have z2:=hz (ts.getD i (0,0,0)).2.1
  have z3:=hz (ts.getD i (0,0,0)).2.2
  have y1:=JM (hz (ts.getD i (0,0,0)).1)
  have y2:=JM (hz (ts.getD i (0,0,0)).2.1)
  have y3:=JM (hz (ts.getD i (0,0,0)).2.2)
  have ya:=KZ hz (ts.getD i (0,0,0))
  have yt:=Wf hz (ts.getD i (0,0,0))
  have yl:=Rk hz (ts.getD i (0,0,0))
  have ys:=KK hz ts i
  refine zC (q1 (zI (q4 (AL O (asg' O (q3 (sL [1,2,3,4,20,21,5] O) (Ak 3 BY O (AL O (C3 call55 (λw hw=>Ob x i hi2 (Bw hnb hi2) w (CL hw 4 O lx)) O (AL O (AD (AJ (v:=(aG (Aa (cor ps (ts.getD i (0,0,0)).1)))) O O) O ?_)))))))))))
  refine AD (AJ (v:=(aG (Aa (cor ps (ts.getD i (0,0,0)).2.1)))) O O) O (AD (AJ (v:=(aG (Aa (cor ps (ts.getD i (0,0,0)).2.2)))) O O) O (al Em O λb5=>al Em O λb6=>al Em O λb7=>Ls O sizeOf78 O (CM O sizeOf78 O (Ah O sizeOf78 O (q6 (sL [1,2,3,4,20,21,6,7,8] O) (rN [(0,true),(1,true),(3,true),(4,true),(6,true),(7,true),(2,false),(5,false),(8,false),(9,false),(10,false)] [⟨11,9,68,AF (0:Rat)⟩] [(12,false)] sr jV (λ_ _ d _ _ h=>by cases d<;>exact h) (FL O O DO O (Hg)) O (Ee 3 A9 O (Ee 2 A9 O ?_))))))))
  refine Ee 3 A9 O (Ee 1 A9 O (Ee 3 A9 O (Ee 0 A9 O (zj O λEF EL=>ck' call57 (H7 (⟨0,0⟩:Pt) (cor ps (ts.getD i (0,0,0)).1) Z) O (zf sr O (zj O λEF EL=>ck' call57 (H7 (⟨0,0⟩:Pt) (cor ps (ts.getD i (0,0,0)).2.1) Z) O (zf sr O (zj O λEF EL=>ck' call57 (H7 (⟨0,0⟩:Pt) (cor ps (ts.getD i (0,0,0)).2.2) Z) O ?_))))))))
  refine zf sr O (zj O λEF EL=>ze (V:=λb8=>(qz (jk b8) 3 3)) (T:=68) (cs:=FJ [Ed (cor ps (ts.getD i (0,0,0)).1),Ed (cor ps (ts.getD i (0,0,0)).2.1),Ed (cor ps (ts.getD i (0,0,0)).2.2)]) (AI O) (Ax (z:=.agg (AF (0:Rat)).toArray) (cs:=FJ [Ed (cor ps (ts.getD i (0,0,0)).1),Ed (cor ps (ts.getD i (0,0,0)).2.1),Ed (cor ps (ts.getD i (0,0,0)).2.2)]) (pv:=[(0,(aG (AF (Ed (cor ps (ts.getD i (0,0,0)).1))))),(1,(aG (AF (Ed (cor ps (ts.getD i (0,0,0)).2.1))))),(2,(aG (AF (Ed (cor ps (ts.getD i (0,0,0)).2.2)))))]) underlying190 sizeOf68 zeroValue68 jY jY O (RZ (Ed (cor ps (ts.getD i (0,0,0)).1)) (Ed (cor ps (ts.getD i (0,0,0)).2.1)) (Ed (cor ps (ts.getD i (0,0,0)).2.2)))) O (A_ O) λb8=>yw (sl sr) O (zj O λEF EL=>C3 call56 (λw hw=>RC (Ed (cor ps (ts.getD i (0,0,0)).1)) (Ed (cor ps (ts.getD i (0,0,0)).2.1)) (Ed (cor ps (ts.getD i (0,0,0)).2.2)) _ _ Z w (hw.get (i:=0) O)) O (zf (sl sr) O (yJ λb9=>zN O (Ah O sizeOf68 O (zD (sl (sl sr)) (zQ ?_)))))))
  refine zB (sL [1,2,3,4,20,21,6,7,8,9] O) (zA (rC [(0,true),(1,true),(2,true),(3,true),(5,true),(4,false),(6,false),(7,false)] 8 [] sr (sk (sk (sk (sk (sk (sk (sl sr))))))) jV (λ_ _ d _ _ h=>by cases d<;>exact h) (vE (v:=(aG (AF (Gu ps ts i)))) O (Ad (i:=6) (vs:=AF (Gu ps ts i)) O O Be.a Be.s O O) O (vE (v:=(aG (Aa (cor ps (ts.getD i (0,0,0)).1)))) O (Ad (i:=4) (vs:=Aa (cor ps (ts.getD i (0,0,0)).1)) O O A9.a A9.s O O) O (vE (v:=(aG (Aa (cor ps (ts.getD i (0,0,0)).2.1)))) O (Ad (i:=3) (vs:=Aa (cor ps (ts.getD i (0,0,0)).2.1)) O O A9.a A9.s O O) O (vE (v:=(aG (Aa (cor ps (ts.getD i (0,0,0)).2.2)))) O (Ad (i:=2) (vs:=Aa (cor ps (ts.getD i (0,0,0)).2.2)) O O A9.a A9.s O O) O (vE (v:=(aG (AF (ZY ps (ts.getD i (0,0,0)))))) O (Ad (i:=0) (vs:=AF (ZY ps (ts.getD i (0,0,0)))) O O Be.a Be.s O O) O (zu O (ck' call60 (Q_ (cor ps (ts.getD i (0,0,0)).1) (cor ps (ts.getD i (0,0,0)).2.1) (cor ps (ts.getD i (0,0,0)).2.2) Z) O (zp sr (zu O ?_)))))))))))
  refine ck' call59 (D4 (F7 ps (ts.getD i (0,0,0))) (ZY ps (ts.getD i (0,0,0))) Z) O (zp sr (zu O (ck' call58 (IU (Gu ps ts i) (Ib ps (ts.getD i (0,0,0))) Z) O (zp sr (yL O (Fj 6 (off:=0) (vs:=AF (Gu ps ts (i+1))) (cs':=AF (Gu ps ts (i+1))) (AI O) O sizeOf68 O (zD (sk (sk (sk (sk (sk (sk (sl sr))))))) (zQ (zB (sL [1,2,3,4,20,21,6,7,8,9] O) (zF (zA ?_)))))))))))
  exact zH (AD (AS (c:=((i+1:Nat):Int)) O O (AV (a:=i) (b:=1) Z)) O (AL O (oNl' (zB (sL [1,2,3,4,20,21,6,7,8,9] O) (zm (i+1) Z Z (sF O) (sl (sl (sl (sl (sl sr))))))))))
 ·replace hc1:=xS hc1
  have hie:i=ts.length:=by omega
  have ys:=KK hz ts ts.length
  have y3:Sz (((1:Int):Rat)/((3:Int):Rat))<=8:=by decide +kernel
  rw [hie]
  refine zU (zO (zY (zP (q2 (ck' call61 (QG (1:Int) (3:Int) Z Z Z Z Z) O (AL O (AD (AJ (v:=(aG (AF (((1:Int):Rat)/((3:Int):Rat))))) O O) O (AD (AJ (v:=(vI 0)) O O) O (al DO O λb5=>Ah O sizeOf68 O (asg' O ?_))))))))))
  exact q3 (sL [1,2,3,4,20,21,10] O) (Ak 2 Be O (Ak 0 Be O (ck' call59 (D4 (Gu ps ts ts.length) (((1:Int):Rat)/((3:Int):Rat)) Z) O (Fi O sizeOf68 O (oNl' (zB (sL [1,2,3,4,20,21,10] O) (zA (zG (ret_one O (An (i:=3) (cs:=AF (DE ps ts)) O O isAgg68 sizeOf68 O) (λw hw=>⟨rfl,hw.out⟩))))))))))
end
end Go.Proofs.YtbfdamnfcmefmaaGreatDoor
