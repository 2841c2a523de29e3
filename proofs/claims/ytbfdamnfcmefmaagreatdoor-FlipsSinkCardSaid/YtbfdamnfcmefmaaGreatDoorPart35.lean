import Derived.Test.YtbfdamnfcmefmaaGreatDoorPart34
namespace Go.Proofs.YtbfdamnfcmefmaaGreatDoor
open Go Go.RowKit Go.Proofs.Tryz
open Go.Value renaming slice→qz,bool→qa
set_option linter.unusedVariables false
set_option linter.unusedSimpArgs false
section
set_option maxRecDepth 100000
theorem FG  :Instr.fill ([(0,1),(1,1),(2,1)].toArray[·]?) ([jj,jj,jj]).toArray []=some ([jj,jj,jj]).toArray:=by kernel_rfl
theorem Ts {ps:List Pt} {ts:List T3} {ss:List Z3} (x:MN ps ts ss) (u v:Int) (hnb:BV ps.length ts=true) (htl:ts.length<=1000000) (hN:ps.length<=1000000) (hsl:ss.length<=1000000) (hno:GJ ts u v<0) (w:World) {S:Nat->Prop} (hx:Ro S w x):Calls prog 19 #[(aG (Cb x)),(vI u),(vI v)] w (BS (SF [] [] [] 1) S w):=by
 have lx:=Db (W:=w) hx
 refine Ak (args:=[(aG (Cb x)),(vI u),(vI v)]) (L:=[AP x.a.p (rowsL AZ ps),AP x.b.p (rowsL Ad ts),AP x.c.p (rowsL Bb ss)]) func19 O O (BE O) (De hx A_) (zM (sL [0,1,2] O) (q4 (BZ (cs:=Cb x) O λb1=>al G_ O λb2=>asg' O (q3 (sL [1,2,3,6,7] O) (Ai 1 Bg O (AM O (AM O (C7 (args:=[(aG (Cb x)),(vI u),(vI v)]) (v:=(Value.tuple #[(aG (Bd (Di ts u v))),(qa false)])) call48 (λw hw=>(by have h9:=Ie x u v hnb htl hN w (Cd hw 2 O lx);rw [xI (show ¬0<=GJ ts u v by omega)] at h9;exact h9)) O (AM O ?_)))))))))
 refine AC (AJ (v:=(aG (Bd (Di ts u v)))) O O) O (AC (AJ (v:=(qa false)) O O) O (al II O λb3=>Ah O sizeOf54 O (asg' O (q6 (sL [3,6,7,8,9] O) (q4 (AM O (AC (BG (c:=true) O O) O (oNl' (zB (sL [3,6,7,8,20] O) (zA ?_))))))))))
 exact zV O (q4 (AC (v:=(aG ([jj,jj,jj]))) (AT (zs:=[jj,jj,jj]) (vs:=[jj,jj,jj]) (pv:=[]) (places:=[(0,1),(1,1),(2,1)]) zeroValue34 underlying34 (λw=>by simp [sizeOf28,sizeOf29,sizeOf32]) O (FG )) O (CS O sizeOf34 O (asg' O (oNl' (zB (sL [3,6,7,8] O) (zA (zH (zJ (Bu O (Ap (i:=1) (cs:=[jj,jj,jj]) O O isAgg34 sizeOf34 O) (rd_tmp (v:=(vI 1)) O) (λw hw=>(Qn hw 1 O))))))))))))
theorem Tt {ps:List Pt} {ts:List T3} {ss:List Z3} (x:MN ps ts ss) (u v:Int) (hnb:BV ps.length ts=true) (htl:ts.length<=1000000) (hN:ps.length<=1000000) (hsl:ss.length<=1000000) (hed:0<=GJ ts u v) (hbo:Ci (Di ts u v)=false) (w:World) {S:Nat->Prop} (hx:Ro S w x):Calls prog 19 #[(aG (Cb x)),(vI u),(vI v)] w (BS (SF [] [] [] 7) S w):=by
 have lx:=Db (W:=w) hx
 refine Ak (args:=[(aG (Cb x)),(vI u),(vI v)]) (L:=[AP x.a.p (rowsL AZ ps),AP x.b.p (rowsL Ad ts),AP x.c.p (rowsL Bb ss)]) func19 O O (BE O) (De hx A_) (zM (sL [0,1,2] O) (q4 (BZ (cs:=Cb x) O λb1=>al G_ O λb2=>asg' O (q3 (sL [1,2,3,6,7] O) (Ai 1 Bg O (AM O (AM O (C7 (args:=[(aG (Cb x)),(vI u),(vI v)]) (v:=(Value.tuple #[(aG (Bd (Di ts u v))),(qa true)])) call48 (λw hw=>(by have h9:=Ie x u v hnb htl hN w (Cd hw 2 O lx);rw [xJ hed] at h9;exact h9)) O (AM O ?_)))))))))
 refine AC (AJ (v:=(aG (Bd (Di ts u v)))) O O) O (AC (AJ (v:=(qa true)) O O) O (al II O λb3=>Ah O sizeOf54 O (asg' O (q6 (sL [3,6,7,8,9] O) (q4 (AM O (AC (BG (c:=false) O O) O (oNl' (zB (sL [3,6,7,8,20] O) (zA ?_))))))))))
 refine zP O (zC (q2 (Ai 2 Bg O (yK (S:=S) (V:=λa:ZC ps ts ss=>aG (bC a)) (LW:=bD) (args:=[(aG (Cb x))]) call27 (λw hw=>IV x Z Z Z w (Cd hw 3 O lx)) O λcp hcp=>Fm 5 (off:=0) (vs:=[(qz cp.a.p ps.length ps.length),(qz cp.b.p ts.length ts.length),(qz cp.c.p ss.length ss.length)]) (cs':=[(qz cp.a.p ps.length ps.length),(qz cp.b.p ts.length ts.length),(qz cp.c.p ss.length ss.length)]) (AK O) O sizeOf34 O (q6 (sL [3,6,7,8] O) (q4 (Ai 5 Bg O (zz 2 O cp.a.ok (Ac Aq _) O O λhn_cp_a=>zz 0 O cp.c.ok (Ac Cs _) O O λhn_cp_c=>Ai 3 G8 O ?_))))))))
 refine C7 (args:=[(aG ([(qz cp.a.p ps.length ps.length),(qz cp.b.p ts.length ts.length),(qz cp.c.p ss.length ss.length)])),(aG (Bd (Di ts u v)))]) (v:=(Value.tuple #[(aG (Js (CG ts (Di ts u v)))),(qa false)])) call49 (λw hw=>(by have h9:=Lm (⟨⟨cp.a.p,ps.length,cp.a.ok.clip⟩,⟨cp.b.p,ts.length,cp.b.ok.clip⟩,⟨cp.c.p,ss.length,cp.c.ok.clip⟩⟩:MN ps ts ss) (Di ts u v) (HM hed) hnb hN w (Vg (TD (Cd (S:=S) hw 2 O (At.new hn_cp_a))) (Qo hw 1 O cp.b.ok (Ac An _) cp.b.ok.clip) (TD (Cd (S:=S) hw 0 O (At.new hn_cp_c))));rw [hbo] at h9;exact h9)) O (AM O (AC (AJ (v:=(aG (Js (CG ts (Di ts u v))))) O O) O (AC (AJ (v:=(qa false)) O O) O (al Ly O λb4=>Ah O sizeOf127 O (asg' O (q3 (sL [3,6,7,8,10,11] O) (AM O (AC (BG (c:=true) O O) O (AM O (BD O ?_))))))))))
 refine BD O (BD O (BD O (AC (v:=(qa true)) (AQ O O) O (oNl' (zB (sL [3,6,7,8,10,37] O) (zA (zV O (q4 (AC (v:=(aG ([jj,jj,jj]))) (AT (zs:=[jj,jj,jj]) (vs:=[jj,jj,jj]) (pv:=[]) (places:=[(0,1),(1,1),(2,1)]) zeroValue34 underlying34 (λw=>by simp [sizeOf28,sizeOf29,sizeOf32]) O (FG )) O (Fm 5 (off:=0) (vs:=[jj,jj,jj]) (cs':=[jj,jj,jj]) (AK O) O sizeOf34 O (asg' O ?_)))))))))))
 exact oNl' (zB (sL [3,6,7,8,10] O) (zA (zH (zJ (Bu O (Ap (i:=5) (cs:=[jj,jj,jj]) O O isAgg34 sizeOf34 O) (rd_tmp (v:=(vI 7)) O) (λw hw=>(Qn hw 7 O)))))))
theorem Tu {ps:List Pt} {ts:List T3} {ss:List Z3} (x:MN ps ts ss) (u v:Int) (hnb:BV ps.length ts=true) (htl:ts.length<=1000000) (hN:ps.length<=1000000) (hsl:ss.length<=1000000) (hz:∀i,Bn (cor ps i)<=200000) (hed:0<=GJ ts u v) (a b p q c d:Nat) (h2:Hi ps.length ts (Di ts u v) p q c d) (hE:Di ts u v=⟨a,b,(p:Int),(q:Int)⟩) (hB:Dg ps a b c d=false) (w:World) {S:Nat->Prop} (hx:Ro S w x):Calls prog 19 #[(aG (Cb x)),(vI u),(vI v)] w (BS (SF [] [] [] 7) S w):=by
 have h2a:a<ps.length:=by have h9:=h2.sc.a;rw [hE] at h9;exact h9
 have h2b:b<ps.length:=by have h9:=h2.sc.b;rw [hE] at h9;exact h9
 have h2c:=h2.sc.c
 have h2d:=h2.sd.c
 have lx:=Db (W:=w) hx
 refine Ak (args:=[(aG (Cb x)),(vI u),(vI v)]) (L:=[AP x.a.p (rowsL AZ ps),AP x.b.p (rowsL Ad ts),AP x.c.p (rowsL Bb ss)]) func19 O O (BE O) (De hx A_) (zM (sL [0,1,2] O) (q4 (BZ (cs:=Cb x) O λb1=>al G_ O λb2=>asg' O (q3 (sL [1,2,3,6,7] O) (Ai 1 Bg O (AM O (AM O (C7 (args:=[(aG (Cb x)),(vI u),(vI v)]) (v:=(Value.tuple #[(aG ([(vN a),(vN b),(vN p),(vN q)])),(qa true)])) call48 (λw hw=>(by have h9:=Ie x u v hnb htl hN w (Cd hw 2 O lx);rw [xJ hed,hE] at h9;exact h9)) O (AM O ?_)))))))))
 refine AC (AJ (v:=(aG ([(vN a),(vN b),(vN p),(vN q)]))) O O) O (AC (AJ (v:=(qa true)) O O) O (al II O λb3=>Ah O sizeOf54 O (asg' O (q6 (sL [3,6,7,8,9] O) (q4 (AM O (AC (BG (c:=false) O O) O (oNl' (zB (sL [3,6,7,8,20] O) (zA ?_))))))))))
 refine zP O (zC (q2 (Ai 2 Bg O (yK (S:=S) (V:=λa:ZC ps ts ss=>aG (bC a)) (LW:=bD) (args:=[(aG (Cb x))]) call27 (λw hw=>IV x Z Z Z w (Cd hw 3 O lx)) O λcp hcp=>Fm 5 (off:=0) (vs:=[(qz cp.a.p ps.length ps.length),(qz cp.b.p ts.length ts.length),(qz cp.c.p ss.length ss.length)]) (cs':=[(qz cp.a.p ps.length ps.length),(qz cp.b.p ts.length ts.length),(qz cp.c.p ss.length ss.length)]) (AK O) O sizeOf34 O (q6 (sL [3,6,7,8] O) (q4 (Ai 5 Bg O (zz 2 O cp.a.ok (Ac Aq _) O O λhn_cp_a=>zz 0 O cp.c.ok (Ac Cs _) O O λhn_cp_c=>Ai 3 G8 O ?_))))))))
 refine C7 (args:=[(aG ([(qz cp.a.p ps.length ps.length),(qz cp.b.p ts.length ts.length),(qz cp.c.p ss.length ss.length)])),(aG ([(vN a),(vN b),(vN p),(vN q)]))]) (v:=(Value.tuple #[(aG ([(vN a),(vN b),(vN p),(vN q),(vN c),(vN d)])),(qa true)])) call49 (λw hw=>(by have h9:=Lm (⟨⟨cp.a.p,ps.length,cp.a.ok.clip⟩,⟨cp.b.p,ts.length,cp.b.ok.clip⟩,⟨cp.c.p,ss.length,cp.c.ok.clip⟩⟩:MN ps ts ss) (Di ts u v) (HM hed) hnb hN w (Vg (TD (Cd (S:=S) hw 2 O (At.new hn_cp_a))) (Qo hw 1 O cp.b.ok (Ac An _) cp.b.ok.clip) (TD (Cd (S:=S) hw 0 O (At.new hn_cp_c))));rw [(Cy h2).1,(Cy h2).2,hE] at h9;exact h9)) O (AM O (AC (AJ (v:=(aG ([(vN a),(vN b),(vN p),(vN q),(vN c),(vN d)]))) O O) O (AC (AJ (v:=(qa true)) O O) O (al Ly O λb4=>Ah O sizeOf127 O (asg' O (q3 (sL [3,6,7,8,10,11] O) (AM O (AC (BG (c:=false) O O) O (AM O (Av (v:=(aG ([(vN a),(vN b),(vN p),(vN q),(vN c),(vN d)]))) O (Ab (i:=0) (vs:=[(vN a),(vN b),(vN p),(vN q),(vN c),(vN d)]) O O G7.a G7.s O O) ?_))))))))))
 refine Av (v:=(aG ([(qz cp.a.p ps.length ps.length),(qz cp.b.p ts.length ts.length),(qz cp.c.p ss.length ss.length)]))) O (Ab (i:=6) (vs:=[(qz cp.a.p ps.length ps.length),(qz cp.b.p ts.length ts.length),(qz cp.c.p ss.length ss.length)]) O O Bg.a Bg.s O O) (yV (v:=qa false) (α:=Unit) (K:=λ_=>True) (LO:=λ_=>[AX b4 127 ([(vN a),(vN b),(vN p),(vN q),(vN c),(vN d)]),AP cp.c.p (rowsL Bb ss),rowW cp.b.p 71 3 ts.length cp.b.c (rowsL Ad ts),AP cp.a.p (rowsL AZ ps),AX b3 54 ([(vN a),(vN b),(vN p),(vN q)]),AX b2 34 ([jj,jj,jj]),AX b1 34 ([(qz cp.a.p ps.length ps.length),(qz cp.b.p ts.length ts.length),(qz cp.c.p ss.length ss.length)]),AP x.a.p (rowsL AZ ps),AP x.b.p (rowsL Ad ts),AP x.c.p (rowsL Bb ss)]) (AY O) (D_ (args:=[(aG ([(vN a),(vN b),(vN p),(vN q),(vN c),(vN d)])),(aG ([(qz cp.a.p ps.length ps.length),(qz cp.b.p ts.length ts.length),(qz cp.c.p ss.length ss.length)]))]) (caps:=[]) (all:=[(aG ([(vN a),(vN b),(vN p),(vN q),(vN c),(vN d)])),(aG ([(qz cp.a.p ps.length ps.length),(qz cp.b.p ts.length ts.length),(qz cp.c.p ss.length ss.length)]))]) O O O call51) (DR [2,3,0,1,4,5,6,7,8,9] (show List.Perm [2,3,0,1,4,5,6,7,8,9] (List.range 10) by decide) O) (λw hw=>(Ny ps ts a b p q c d h2a h2b h2c h2d h2.pl h2.ql hN htl hz cp.a.p cp.b.p cp.c.p ps.length cp.b.c ts.length ss.length ss.length cp.b.ok cp.b.ok.clip cp.a.ok.clip w (LR:=[AX b4 127 ([(vN a),(vN b),(vN p),(vN q),(vN c),(vN d)]),AP cp.c.p (rowsL Bb ss),AX b3 54 ([(vN a),(vN b),(vN p),(vN q)]),AX b2 34 ([jj,jj,jj]),AX b1 34 ([(qz cp.a.p ps.length ps.length),(qz cp.b.p ts.length ts.length),(qz cp.c.p ss.length ss.length)]),AP x.a.p (rowsL AZ ps),AP x.b.p (rowsL Ad ts),AP x.c.p (rowsL Bb ss)]) hw).mono λe w' ⟨h1,t,h3,h4⟩=>(by rw [KM hB] at h4;exact ⟨by rw [h1,hB],t,h3,h4.perm (DR [2,3,0,1,4,5,6,7,8,9] (show List.Perm [2,3,0,1,4,5,6,7,8,9] (List.range 10) by decide) O)⟩)) (λd hd=>by cases hd<;>exact (BE O)) λ_ _=>Av (v:=(qa true)) O (BG (c:=true) O O) (AC (v:=(qa true)) (AL O O) O (oNl' (zB (sL [3,6,7,8,10,37] O) (zA (zV O (q4 (AC (v:=(aG ([jj,jj,jj]))) (AT (zs:=[jj,jj,jj]) (vs:=[jj,jj,jj]) (pv:=[]) (places:=[(0,1),(1,1),(2,1)]) zeroValue34 underlying34 (λw=>by simp [sizeOf28,sizeOf29,sizeOf32]) O (FG )) O (Fm 5 (off:=0) (vs:=[jj,jj,jj]) (cs':=[jj,jj,jj]) (AK O) O sizeOf34 O (asg' O ?_))))))))))
 exact oNl' (zB (sL [3,6,7,8,10] O) (zA (zH (zJ (Bu O (Ap (i:=5) (cs:=[jj,jj,jj]) O O isAgg34 sizeOf34 O) (rd_tmp (v:=(vI 7)) O) (λw hw=>(Qn hw 7 O)))))))
theorem Tv {ps:List Pt} {ts:List T3} {ss:List Z3} (x:MN ps ts ss) (u v:Int) (hnb:BV ps.length ts=true) (htl:ts.length<=1000000) (hN:ps.length<=1000000) (hsl:ss.length<=1000000) (hz:∀i,Bn (cor ps i)<=200000) (hed:0<=GJ ts u v) (a b p q c d:Nat) (h2:Hi ps.length ts (Di ts u v) p q c d) (hE:Di ts u v=⟨a,b,(p:Int),(q:Int)⟩) (hB:Dg ps a b c d=true) (w:World) {S:Nat->Prop} (hx:Ro S w x):Calls prog 19 #[(aG (Cb x)),(vI u),(vI v)] w (BS (SF ps (B8 ts a b p q c d) ss 0) S w):=by
 have h2a:a<ps.length:=by have h9:=h2.sc.a;rw [hE] at h9;exact h9
 have h2b:b<ps.length:=by have h9:=h2.sc.b;rw [hE] at h9;exact h9
 have h2c:=h2.sc.c
 have h2d:=h2.sd.c
 have lx:=Db (W:=w) hx
 refine Ak (args:=[(aG (Cb x)),(vI u),(vI v)]) (L:=[AP x.a.p (rowsL AZ ps),AP x.b.p (rowsL Ad ts),AP x.c.p (rowsL Bb ss)]) func19 O O (BE O) (De hx A_) (zM (sL [0,1,2] O) (q4 (BZ (cs:=Cb x) O λb1=>al G_ O λb2=>asg' O (q3 (sL [1,2,3,6,7] O) (Ai 1 Bg O (AM O (AM O (C7 (args:=[(aG (Cb x)),(vI u),(vI v)]) (v:=(Value.tuple #[(aG ([(vN a),(vN b),(vN p),(vN q)])),(qa true)])) call48 (λw hw=>(by have h9:=Ie x u v hnb htl hN w (Cd hw 2 O lx);rw [xJ hed,hE] at h9;exact h9)) O (AM O ?_)))))))))
 refine AC (AJ (v:=(aG ([(vN a),(vN b),(vN p),(vN q)]))) O O) O (AC (AJ (v:=(qa true)) O O) O (al II O λb3=>Ah O sizeOf54 O (asg' O (q6 (sL [3,6,7,8,9] O) (q4 (AM O (AC (BG (c:=false) O O) O (oNl' (zB (sL [3,6,7,8,20] O) (zA ?_))))))))))
 refine zP O (zC (q2 (Ai 2 Bg O (yK (S:=S) (V:=λa:ZC ps ts ss=>aG (bC a)) (LW:=bD) (args:=[(aG (Cb x))]) call27 (λw hw=>IV x Z Z Z w (Cd hw 3 O lx)) O λcp hcp=>Fm 5 (off:=0) (vs:=[(qz cp.a.p ps.length ps.length),(qz cp.b.p ts.length ts.length),(qz cp.c.p ss.length ss.length)]) (cs':=[(qz cp.a.p ps.length ps.length),(qz cp.b.p ts.length ts.length),(qz cp.c.p ss.length ss.length)]) (AK O) O sizeOf34 O (q6 (sL [3,6,7,8] O) (q4 (Ai 5 Bg O (zz 2 O cp.a.ok (Ac Aq _) O O λhn_cp_a=>zz 0 O cp.c.ok (Ac Cs _) O O λhn_cp_c=>Ai 3 G8 O ?_))))))))
 refine C7 (args:=[(aG ([(qz cp.a.p ps.length ps.length),(qz cp.b.p ts.length ts.length),(qz cp.c.p ss.length ss.length)])),(aG ([(vN a),(vN b),(vN p),(vN q)]))]) (v:=(Value.tuple #[(aG ([(vN a),(vN b),(vN p),(vN q),(vN c),(vN d)])),(qa true)])) call49 (λw hw=>(by have h9:=Lm (⟨⟨cp.a.p,ps.length,cp.a.ok.clip⟩,⟨cp.b.p,ts.length,cp.b.ok.clip⟩,⟨cp.c.p,ss.length,cp.c.ok.clip⟩⟩:MN ps ts ss) (Di ts u v) (HM hed) hnb hN w (Vg (TD (Cd (S:=S) hw 2 O (At.new hn_cp_a))) (Qo hw 1 O cp.b.ok (Ac An _) cp.b.ok.clip) (TD (Cd (S:=S) hw 0 O (At.new hn_cp_c))));rw [(Cy h2).1,(Cy h2).2,hE] at h9;exact h9)) O (AM O (AC (AJ (v:=(aG ([(vN a),(vN b),(vN p),(vN q),(vN c),(vN d)]))) O O) O (AC (AJ (v:=(qa true)) O O) O (al Ly O λb4=>Ah O sizeOf127 O (asg' O (q3 (sL [3,6,7,8,10,11] O) (AM O (AC (BG (c:=false) O O) O (AM O (Av (v:=(aG ([(vN a),(vN b),(vN p),(vN q),(vN c),(vN d)]))) O (Ab (i:=0) (vs:=[(vN a),(vN b),(vN p),(vN q),(vN c),(vN d)]) O O G7.a G7.s O O) ?_))))))))))
 refine Av (v:=(aG ([(qz cp.a.p ps.length ps.length),(qz cp.b.p ts.length ts.length),(qz cp.c.p ss.length ss.length)]))) O (Ab (i:=6) (vs:=[(qz cp.a.p ps.length ps.length),(qz cp.b.p ts.length ts.length),(qz cp.c.p ss.length ss.length)]) O O Bg.a Bg.s O O) (yV (v:=qa true) (α:=Unit) (K:=λ_=>True) (LO:=λ_=>[AX b4 127 ([(vN a),(vN b),(vN p),(vN q),(vN c),(vN d)]),AP cp.c.p (rowsL Bb ss),rowW cp.b.p 71 3 ts.length cp.b.c (rowsL Ad (B8 ts a b p q c d)),AP cp.a.p (rowsL AZ ps),AX b3 54 ([(vN a),(vN b),(vN p),(vN q)]),AX b2 34 ([jj,jj,jj]),AX b1 34 ([(qz cp.a.p ps.length ps.length),(qz cp.b.p ts.length ts.length),(qz cp.c.p ss.length ss.length)]),AP x.a.p (rowsL AZ ps),AP x.b.p (rowsL Ad ts),AP x.c.p (rowsL Bb ss)]) (AY O) (D_ (args:=[(aG ([(vN a),(vN b),(vN p),(vN q),(vN c),(vN d)])),(aG ([(qz cp.a.p ps.length ps.length),(qz cp.b.p ts.length ts.length),(qz cp.c.p ss.length ss.length)]))]) (caps:=[]) (all:=[(aG ([(vN a),(vN b),(vN p),(vN q),(vN c),(vN d)])),(aG ([(qz cp.a.p ps.length ps.length),(qz cp.b.p ts.length ts.length),(qz cp.c.p ss.length ss.length)]))]) O O O call51) (DR [2,3,0,1,4,5,6,7,8,9] (show List.Perm [2,3,0,1,4,5,6,7,8,9] (List.range 10) by decide) O) (λw hw=>(Ny ps ts a b p q c d h2a h2b h2c h2d h2.pl h2.ql hN htl hz cp.a.p cp.b.p cp.c.p ps.length cp.b.c ts.length ss.length ss.length cp.b.ok cp.b.ok.clip cp.a.ok.clip w (LR:=[AX b4 127 ([(vN a),(vN b),(vN p),(vN q),(vN c),(vN d)]),AP cp.c.p (rowsL Bb ss),AX b3 54 ([(vN a),(vN b),(vN p),(vN q)]),AX b2 34 ([jj,jj,jj]),AX b1 34 ([(qz cp.a.p ps.length ps.length),(qz cp.b.p ts.length ts.length),(qz cp.c.p ss.length ss.length)]),AP x.a.p (rowsL AZ ps),AP x.b.p (rowsL Ad ts),AP x.c.p (rowsL Bb ss)]) hw).mono λe w' ⟨h1,t,h3,h4⟩=>(by rw [O_ hB] at h4;exact ⟨by rw [h1,hB],t,h3,h4.perm (DR [2,3,0,1,4,5,6,7,8,9] (show List.Perm [2,3,0,1,4,5,6,7,8,9] (List.range 10) by decide) O)⟩)) (λd hd=>by cases hd<;>exact (BE O)) λ_ _=>Av (v:=(qa false)) O (BG (c:=false) O O) (AC (v:=(qa false)) (AL O O) O (oNl' (zB (sL [3,6,7,8,10,37] O) (zA (zP O (zC (q2 (Ai 6 Bg O (zz 2 O cp.b.ok (by rw [Ac An,CL]) O O λhn_cp_b=>?_))))))))))
 exact Fm 5 (off:=0) (vs:=[(qz cp.a.p ps.length ps.length),(qz cp.b.p ts.length ts.length),(qz cp.c.p ss.length ss.length)]) (cs':=[(qz cp.a.p ps.length ps.length),(qz cp.b.p ts.length ts.length),(qz cp.c.p ss.length ss.length)]) (AK O) O sizeOf34 O (asg' O (oNl' (zB (sL [3,6,7,8,10] O) (zA (zH (Bu O (Ap (i:=5) (cs:=[(qz cp.a.p ps.length ps.length),(qz cp.b.p ts.length ts.length),(qz cp.c.p ss.length ss.length)]) O O isAgg34 sizeOf34 O) (rd_tmp (v:=(vI 0)) O) (λw hw=>(aM hw (a:=(⟨(⟨⟨cp.a.p,ps.length,cp.a.ok.clip⟩,⟨cp.b.p,ts.length,(CL (ts:=ts) (a:=a) (b:=b) (p:=p) (q:=q) (c:=c) (d:=d)).symm▸cp.b.ok.clip⟩,⟨cp.c.p,ss.length,cp.c.ok.clip⟩⟩:MN ps (B8 ts a b p q c d) ss)⟩:SF ps (B8 ts a b p q c d) ss 0)) (VK hw [3,2,1] O (At.mn (At.new hn_cp_a) (At.new hn_cp_b) (At.new hn_cp_c))) (by show _=Value.tuple #[aG [.slice cp.a.p ps.length ps.length,.slice cp.b.p (B8 ts a b p q c d).length ts.length,.slice cp.c.p ss.length ss.length],vN 0];rw [CL];rfl)))))))))
theorem XL {ps:List Pt} {ts:List T3} {ss:List Z3} (x:MN ps ts ss) (u v:Int) (hnb:BV ps.length ts=true) (htl:ts.length<=1000000) (hN:ps.length<=1000000) (hsl:ss.length<=1000000) (hz:∀i,Bn (cor ps i)<=200000) (w:World) {S:Nat->Prop} (hx:Ro S w x):Calls prog 19 #[(aG (Cb x)),(vI u),(vI v)] w (BS (SF (Nt ps ts u v) (Nv ps ts u v) (Nu ps ts ss u v) (M2 ps ts u v)) S w):=by
 rcases (by omega:GJ ts u v<0\/0<=GJ ts u v) with h|h
 ·have h1:=U0 (ps:=ps) h
  rw [(Hn (ss:=ss) h1.1).1,(Hn (ss:=ss) h1.1).2.1,(Hn (ss:=ss) h1.1).2.2,h1.2]
  exact Ts x u v hnb htl hN hsl h w hx
 ·by_cases hb:Ci (Di ts u v)=true
  ·obtain ⟨g1,g2⟩:=EG.1 hb
   obtain ⟨p,q,c,d,h2⟩:=JX hnb Z (HM h) g1 g2
   have e1:=Ra h h2
   cases hB:Dg ps (Di ts u v).a (Di ts u v).b c d with
   | false =>
    rw [hB] at e1
    rw [(Hn (ss:=ss) e1.1).1,(Hn (ss:=ss) e1.1).2.1,(Hn (ss:=ss) e1.1).2.2,Ns h,e1.1]
    exact Tu x u v hnb htl hN hsl hz h _ _ p q c d h2 h2.mk4 hB w hx
   | true =>
    rw [hB] at e1
    rw [(Nx (ss:=ss) e1.1).1,(Nx (ss:=ss) e1.1).2.1,(Nx (ss:=ss) e1.1).2.2,Ns h,e1.1,e1.2]
    exact Tv x u v hnb htl hN hsl hz h _ _ p q c d h2 h2.mk4 hB w hx
  ·rw [Bool.not_eq_true] at hb
   have h1:=Xt (ps:=ps) h hb
   rw [(Hn (ss:=ss) h1.1).1,(Hn (ss:=ss) h1.1).2.1,(Hn (ss:=ss) h1.1).2.2,h1.2]
   exact Tt x u v hnb htl hN hsl h hb w hx
end
section
def IT (p:Pt):Rat:=B6 (p-(⟨0,0⟩:Pt)) (p-(⟨0,0⟩:Pt))
def ZR (ps:List Pt) (t:T3):Rat:=IT (cor ps t.1)+IT (cor ps t.2.1)+IT (cor ps t.2.2)
def In (ps:List Pt) (t:T3):Rat:=F9 ps t*ZR ps t
def Gz (ps:List Pt) (ts:List T3):Nat->Rat
  | 0=>0
  | i+1=>Gz ps ts i+In ps (ts.getD i (0,0,0))
def EO (ps:List Pt) (ts:List T3):Rat:=Gz ps ts ts.length*(((1:Int):Rat)/((3:Int):Rat))
theorem JV {p:Pt} (h:Bn p<=1000):Sz (IT p)<=4100:=by
  have h1:=Dz p (⟨0,0⟩:Pt)
  have h2:=Kj (p-(⟨0,0⟩:Pt)) (p-(⟨0,0⟩:Pt))
  have h3:Bn (⟨0,0⟩:Pt)<=10:=by decide +kernel
  unfold IT;omega
section
variable {ps:List Pt} (hz:∀k,Bn (cor ps k)<=1000)
include hz
theorem Wc (t:T3):Sz (ZR ps t)<=12302:=by
  have h1:=JV (hz t.1)
  have h2:=JV (hz t.2.1)
  have h3:=JV (hz t.2.2)
  have h4:=En (IT (cor ps t.1)) (IT (cor ps t.2.1))
  have h5:=En (IT (cor ps t.1)+IT (cor ps t.2.1)) (IT (cor ps t.2.2))
  unfold ZR;omega
theorem Rm (t:T3):Sz (In ps t)<=20311:=by
  have h1:=Kf hz t
  have h2:=Wc hz t
  have h3:=C2 (F9 ps t) (ZR ps t)
  unfold In;omega
theorem KR (ts:List T3):∀i,Sz (Gz ps ts i)<=2+i*20312
  | 0=>by show Sz (0:Rat)<=2+0*20312;decide +kernel
  | i+1=>by
    have h:=KR ts i
    have h1:=Rm hz (ts.getD i (0,0,0))
    have h4:=En (Gz ps ts i) (In ps (ts.getD i (0,0,0)))
    show Sz (Gz ps ts i+In ps (ts.getD i (0,0,0)))<=_
    omega
end
theorem Vt {ps:List Pt} {ts:List T3} (h:H9 ps ts=false):FU ps ts=ts:=by
  unfold H9 at h
  unfold FU
  split
  · rfl
  · rename_i h1
    rw [if_neg h1] at h
    exact KM h
structure bM (ps:List Pt) (ts:List T3) (ss:List Z3) (n e:Nat) where
  x:MN ps ts ss
instance {ps:List Pt} {ts:List T3} {ss:List Z3} {n e:Nat}:C6 (bM ps ts ss n e):=⟨λr=>.tuple #[aG (Cb r.x),vN n,vN e],λr=>[r.x.a.row,r.x.b.row,r.x.c.row],λr y hy=>Vh hy⟩
theorem Vn {ps:List Pt} {ts ss:List T3} (x:MX ps ts ss):∃y:MN ps ts (ss.map C8),Cb y=Ce x/\∀{S:Nat->Prop} {w:World},Ro S w x->Ro S w y:=by
  obtain ⟨a,b,⟨cp,cc,cok⟩⟩:=x
  have hk:ss.length=(ss.map C8).length:=(xL _).symm
  refine ⟨⟨a,b,⟨cp,cc,hk▸cok⟩⟩,?_,λ{S w} h y hy=>?_⟩
  · show [a.val,b.val,qz cp (ss.map C8).length cc]=[a.val,b.val,qz cp ss.length cc]
    rw [xL]
  · have hy:y∈[a.row,b.row,AP cp (rowsL Bb (ss.map C8))]:=hy
    rw [<-E6] at hy
    exact h y hy
def CK:List Pt:=[⟨0,0⟩,⟨2,-1⟩,⟨4,0⟩,⟨2,1⟩]
def Dh:List T3:=[(0,1,2),(0,2,3)]
def DH:List T3:=[(1,2,3),(0,1,3)]
def YB:List T3:=[(0,1,0),(0,3,0),(1,2,0),(2,3,0)]
def Gx:List Z3:=YB.map C8
theorem N9 (i:Nat):Bn (cor CK i)<=1000:=aj (by decide +kernel) (by decide +kernel) i
theorem Im (i:Nat):Bn (cor CK i)<=200000:=xN (N9 i) jY
theorem Z2:∀i,i<Dh.length->∀k,k<i->(!Dy (Be CK (Dh.getD i (0,0,0))) (Be CK (Dh.getD k (0,0,0)))&&!Dy (Be CK (Dh.getD k (0,0,0))) (Be CK (Dh.getD i (0,0,0))))=false:=by decide +kernel
theorem Z4:∀i,i<Dh.length->∀p,p<CK.length->B_ (Dh.getD i (0,0,0)) p=false->JZ CK (cor CK p) (Dh.getD i (0,0,0))=0:=by decide +kernel
theorem YC:Fr CK Dh YB:=by
  refine ⟨by decide,by decide,by decide,by decide,N9,by decide +kernel,by decide +kernel,by decide +kernel,λp hp=>?_,by decide +kernel,λi k hi hk=>Z2 i hi k hk,λi p hi hp=>Z4 i hi p hp,by decide +kernel,by decide +kernel⟩
  have hp:p<4:=hp
  have e:p=0\/p=1\/p=2\/p=3:=by omega
  rcases e with rfl|rfl|rfl|rfl
  · exact ⟨0,by decide,by decide +kernel⟩
  · exact ⟨0,by decide,by decide +kernel⟩
  · exact ⟨0,by decide,by decide +kernel⟩
  · exact ⟨1,by decide,by decide +kernel⟩
theorem LY:BV CK.length Dh=true:=by decide +kernel
theorem VS:BV CK.length DH=true:=by decide +kernel
theorem VR:XA CK Dh 2 0=false/\XB Dh 2 0=0:=by decide +kernel
theorem Z7:Nt CK Dh 0 2=CK/\Nv CK Dh 0 2=DH/\Nu CK Dh Gx 0 2=Gx/\M2 CK Dh 0 2=0:=by decide +kernel
theorem Z5:Nt CK Dh 0 1=[]/\Nv CK Dh 0 1=[]/\Nu CK Dh Gx 0 1=[]/\M2 CK Dh 0 1=7:=by decide +kernel
theorem Z6:Nt CK Dh 1 3=[]/\Nv CK Dh 1 3=[]/\Nu CK Dh Gx 1 3=[]/\M2 CK Dh 1 3=1:=by decide +kernel
theorem QO:H9 CK Dh=true/\FU CK Dh=DH/\H9 CK DH=false:=by decide +kernel
theorem QM:EO CK Dh=28:=by decide +kernel
theorem QN:EO CK DH=24:=by decide +kernel
theorem aA {ps:List Pt} {ts ss:List T3} (x:MX ps ts ss):∃y:MN ps ts (ss.map C8),Cb y=Ce x/\(∀{S:Nat->Prop} {w:World},Ro S w x->Ro S w y)/\∀{S:Nat->Prop} {w:World},Ro S w y->Ro S w x:=by
  obtain ⟨a,b,⟨cp,cc,cok⟩⟩:=x
  have hk:ss.length=(ss.map C8).length:=(xL _).symm
  refine ⟨⟨a,b,⟨cp,cc,hk▸cok⟩⟩,?_,λ{S w} h y hy=>?_,λ{S w} h y hy=>?_⟩
  · show [a.val,b.val,qz cp (ss.map C8).length cc]=[a.val,b.val,qz cp ss.length cc]
    rw [xL]
  · have hy:y∈[a.row,b.row,AP cp (rowsL Bb (ss.map C8))]:=hy
    rw [<-E6] at hy
    exact h y hy
  · have hy:y∈[a.row,b.row,AP cp (rowsL Ad ss)]:=hy
    rw [E6 ss] at hy
    exact h y hy
end
section
set_option maxRecDepth 100000
theorem Oh {ps:List Pt} {ts:List T3} {ss:List Z3} (x:MN ps ts ss) (t:Nat) (ht:t<ts.length) (hk:JM ps.length (ts.getD t (0,0,0))=true) (w:World) {S:Nat->Prop} (hx:Ro S w x):Calls prog 55 #[(aG (Cb x)),(vN t)] w (Ag w (Value.tuple #[(aG (AZ (cor ps (ts.getD t (0,0,0)).1))),(aG (AZ (cor ps (ts.getD t (0,0,0)).2.1))),(aG (AZ (cor ps (ts.getD t (0,0,0)).2.2)))])):=by
 obtain ⟨k1,k2,k3⟩:=DP hk
 have lx:=Db (W:=w) hx
 refine Ak (args:=[(aG (Cb x)),(vN t)]) (L:=[AP x.a.p (rowsL AZ ps),AP x.b.p (rowsL Ad ts),AP x.c.p (rowsL Bb ss)]) func55 O O (BE O) (De hx A_) (zM (sL [0,1] O) (q4 (BZ (cs:=Cb x) O λb1=>al Ep O λb2=>al Ep O λb3=>al Ep O λb4=>q6 (sL [1,2,4,5,6] O) (q4 (AM O (AC (Aa (c:=false) O O jX) O (AM O ?_)))))))
 refine F0 O (Av (v:=(pP b1 1)) O (AA O underlying34 O sizeOf28 O) (Av (v:=(qz x.b.p ts.length x.b.c)) O (AD (i:=3) (v:=(qz x.b.p ts.length x.b.c)) O O CM.a O) (Av (v:=(vN ts.length)) O (AE O underlying28) (Av (v:=(qa false)) O (D5 (c:=false) O O (by simp;omega)) (AC (v:=(qa false)) (AL O O) O (oNl' (zB (sL [1,2,4,5,6,17] O) (zA (zP O (zC (q1 ?_)))))))))))
 refine C_ (Ek 8++[(8,false),(9,false),(10,true)]) sr (Aj (v:=(pP b1 1)) O (AA O underlying34 O sizeOf28 O) (BK 3 (qz x.b.p ts.length x.b.c) CM O (Bx O (Aj (v:=(pP (pB x.b.p) (pO x.b.p+t*3))) O (AO (j:=t) O O x.b.ok underlying28 sizeOf71 O Z) (Aj (v:=(aG (Ad (ts.getD t jJ)))) O (AI (vs:=Ad (ts.getD t jJ)) (i:=5) O O (Aw.ne x.b.ok Z) Bm (Ae An _ _ _ Z) (An _)) (Aj (v:=(pP b1 0)) O (AA O underlying34 O sizeOf32 O) (BK 3 (qz x.a.p ps.length x.a.c) DC O (Aj (v:=(vN ps.length)) O (AE O underlying32) (zN O (al Hk O λb5=>zG (sl sr) ?_))))))))))
 refine zN O (Ah O sizeOf71 O (zG (sl sr) (pS' O (zQ (zB (sL [1,2,4,5,6,7,8] O) (q1 (q4 (AC (v:=(pP b5 0)) (AB (j:=0) O O underlying71 sizeOf3 O jY O) O (BA 0 (vN ((ts.getD t jJ).1)) BP O (AM O (C7 (args:=[(vN ((ts.getD t jJ).1)),(vN ps.length)]) (v:=(qa true)) call117 (λw hw=>(by have h9:=Ck ((ts.getD t jJ).1) ps.length w;rw [xJ Z] at h9;exact h9)) O ?_)))))))))))
 refine AC (BG (c:=false) O O) O (AM O (Av (v:=(pP b5 1)) O (AB (j:=1) O O underlying71 sizeOf3 O jY O) (Av (v:=(vN ((ts.getD t jJ).2.1))) O (AD (i:=0) (v:=(vN ((ts.getD t jJ).2.1))) O O BP.a O) (F0 O (zg (v:=(qa true)) (AY O) (Ao (args:=[(vN ((ts.getD t jJ).2.1)),(vN ps.length)]) O O call117) (λw hw=>(by have h9:=Ck ((ts.getD t jJ).2.1) ps.length w;rw [xJ Z] at h9;exact h9)) O (BE O) (Av (v:=(qa false)) O (BG (c:=false) O O) (AC (v:=(qa false)) (AL O O) O (AM O (Av (v:=(pP b5 2)) O (AB (j:=2) O O underlying71 sizeOf3 O jY O) (Av (v:=(vN ((ts.getD t jJ).2.2))) O (AD (i:=0) (v:=(vN ((ts.getD t jJ).2.2))) O O BP.a O) (F0 O ?_)))))))))))
 refine zg (v:=(qa true)) (AY O) (Ao (args:=[(vN ((ts.getD t jJ).2.2)),(vN ps.length)]) O O call117) (λw hw=>(by have h9:=Ck ((ts.getD t jJ).2.2) ps.length w;rw [xJ Z] at h9;exact h9)) O (BE O) (Av (v:=(qa false)) O (BG (c:=false) O O) (AC (v:=(qa false)) (AL O O) O (oNl' (zB (sL [1,2,4,5,6,7,47] O) (zA (zP O (zC (q1 (C_ (Ek 18++[(18,false),(19,false),(20,false)]) (sk (sl (sl (sl sr)))) (Aj (v:=(pP b1 0)) O (AA O underlying34 O sizeOf32 O) (BK 1 (qz x.a.p ps.length x.a.c) DC O ?_)))))))))))
 refine Aj (v:=(pP b5 0)) O (AB (j:=0) O O underlying71 sizeOf3 O jY O) (BK 0 (vN ((ts.getD t jJ).1)) BP O (Aj (v:=(pP (pB x.a.p) (pO x.a.p+((ts.getD t jJ).1)*10))) O (AO (j:=(ts.getD t jJ).1) O O x.a.ok underlying32 sizeOf78 O Z) (Aj (v:=(aG (AZ (ps.getD ((ts.getD t jJ).1) (⟨0,0⟩:Pt))))) O (AI (vs:=AZ (ps.getD ((ts.getD t jJ).1) (⟨0,0⟩:Pt))) (i:=2) O O (Aw.ne x.a.ok Z) BC (Ae Aq _ _ _ Z) (Aq _)) (Aj (v:=(pP b1 0)) O (AA O underlying34 O sizeOf32 O) (BK 1 (qz x.a.p ps.length x.a.c) DC O (Aj (v:=(pP b5 1)) O (AB (j:=1) O O underlying71 sizeOf3 O jY O) (BK 0 (vN ((ts.getD t jJ).2.1)) BP O (Aj (v:=(pP (pB x.a.p) (pO x.a.p+((ts.getD t jJ).2.1)*10))) O (AO (j:=(ts.getD t jJ).2.1) O O x.a.ok underlying32 sizeOf78 O Z) (Aj (v:=(aG (AZ (ps.getD ((ts.getD t jJ).2.1) (⟨0,0⟩:Pt))))) O (AI (vs:=AZ (ps.getD ((ts.getD t jJ).2.1) (⟨0,0⟩:Pt))) (i:=2) O O (Aw.ne x.a.ok Z) BC (Ae Aq _ _ _ Z) (Aq _)) (Aj (v:=(pP b1 0)) O (AA O underlying34 O sizeOf32 O) (BK 1 (qz x.a.p ps.length x.a.c) DC O ?_)))))))))))
 refine Aj (v:=(pP b5 2)) O (AB (j:=2) O O underlying71 sizeOf3 O jY O) (BK 0 (vN ((ts.getD t jJ).2.2)) BP O (Aj (v:=(pP (pB x.a.p) (pO x.a.p+((ts.getD t jJ).2.2)*10))) O (AO (j:=(ts.getD t jJ).2.2) O O x.a.ok underlying32 sizeOf78 O Z) (Aj (v:=(aG (AZ (ps.getD ((ts.getD t jJ).2.2) (⟨0,0⟩:Pt))))) O (AI (vs:=AZ (ps.getD ((ts.getD t jJ).2.2) (⟨0,0⟩:Pt))) (i:=2) O O (Aw.ne x.a.ok Z) BC (Ae Aq _ _ _ Z) (Aq _)) (zN O (Gc O sizeOf78 O (zG (sk (sl (sl (sl sr)))) (zN O (Lv O sizeOf78 O (zG (sk (sl (sl (sl sr)))) (zN O (CS O sizeOf78 O ?_)))))))))))
 exact zG (sk (sl (sl (sl sr)))) (zQ (zB (sL [1,2,4,5,6,7] O) (zA (zH (ER O (Ap (i:=3) (cs:=AZ (ps.getD ((ts.getD t jJ).1) (⟨0,0⟩:Pt))) O O isAgg78 sizeOf78 O) (Ap (i:=2) (cs:=AZ (ps.getD ((ts.getD t jJ).2.1) (⟨0,0⟩:Pt))) O O isAgg78 sizeOf78 O) (Ap (i:=1) (cs:=AZ (ps.getD ((ts.getD t jJ).2.2) (⟨0,0⟩:Pt))) O O isAgg78 sizeOf78 O) (λw hw=>⟨rfl,hw.out⟩))))))
theorem LC  :Instr.fill ([(0,3),(3,2)].toArray[·]?) (AG (0:Rat)).toArray []=some (AG (0:Rat)).toArray:=by kernel_rfl
theorem LD  :Instr.fill ([(0,5),(5,5)].toArray[·]?) (AZ (⟨0,0⟩:Pt)).toArray []=some (AZ (⟨0,0⟩:Pt)).toArray:=by kernel_rfl
set_option maxHeartbeats 1000000 in
theorem Q_ {ps:List Pt} {ts:List T3} {ss:List Z3} (x:MN ps ts ss) (htl:ts.length<=8192) (hN:ps.length<=1000000) (hz:∀k,Bn (cor ps k)<=1000) (hnb:BV ps.length ts=true) (w:World) {S:Nat->Prop} (hx:Ro S w x):Calls prog 21 #[(aG (Cb x))] w (Ag w (aG (AG (EO ps ts)))):=by
 have lx:=Db (W:=w) hx
 refine Ak (args:=[(aG (Cb x))]) (L:=[AP x.a.p (rowsL AZ ps),AP x.b.p (rowsL Ad ts),AP x.c.p (rowsL Bb ss)]) func21 O O (BE O) (De hx A_) (zM (sL [0] O) (q4 (BZ (cs:=Cb x) O λb1=>al DV O λb2=>q3 (sL [1,2] O) (AC (v:=(aG (AG (0:Rat)))) (AT (zs:=AG (0:Rat)) (vs:=AG (0:Rat)) (pv:=[]) (places:=[(0,3),(3,2)]) zeroValue68 underlying68 (λw=>by simp [sizeOf62,sizeOf66]) O (LC )) O (AC (v:=(aG (AZ (⟨0,0⟩:Pt)))) (AT (zs:=AZ (⟨0,0⟩:Pt)) (vs:=AZ (⟨0,0⟩:Pt)) (pv:=[]) (places:=[(0,5),(5,5)]) zeroValue78 underlying78 (λw=>by simp [sizeOf68]) O (LD )) O (al DV O λb3=>al Ep O λb4=>CS O sizeOf68 O (Ah O sizeOf78 O ?_)))))))
 refine q6 (sL [1,2,3,4] O) (q4 (Ai 3 Bg O (C7 (args:=[(aG (Cb x))]) (v:=(qa true)) call46 (λw hw=>(by obtain ⟨y2,hy2,hro⟩:=Rq x;have h9:=T7 y2.rq (by rw [xL];omega) w (dZ (hro (Cd hw 4 O lx)));rw [S4,hnb,show cG y2.rq=Cb x from hy2] at h9;exact h9)) O (AC (BG (c:=false) O O) O (oNl' (zB (sL [1,2,3,4,16] O) (zA (zP O (zC (q1 (q4 ?_)))))))))))
 refine AC (v:=(pP b1 1)) (AA O underlying34 O sizeOf28 O) O (BA 3 (qz x.b.p ts.length x.b.c) CM O (AC (v:=(vN ts.length)) (AE O underlying28) O (AM O (oNl' (zB (sL [1,2,3,4,20,21] O) (zA (zI ?_)))))))
 refine zw (tg λ(i:Nat)=>i<=ts.length) (tg λ(i:Nat)=>[(1,(pP b1 0)),(2,(pP b2 0)),(3,(pP b3 0)),(4,(pP b4 0)),(20,(vN ts.length)),(21,(vN i))]) (tg λ(i:Nat)=>[AX b4 78 (AZ (⟨0,0⟩:Pt)),AX b3 68 (AG (Gz ps ts i)),AX b2 68 (AG (0:Rat)),AX b1 34 (Cb x),AP x.a.p (rowsL AZ ps),AP x.b.p (rowsL Ad ts),AP x.c.p (rowsL Bb ss)]) (tg λ(i:Nat)=>ts.length-i) 0 (xK _) (sF O) sr (λi hJ=>?_)
 have hi:=hJ
 refine q4 (AC (Aa (c:=(decide (i<ts.length))) O O (DF (a:=i) (b:=ts.length))) O (oNl' (q1 ?_)))
 refine zL O (λhc1=>?_) (λhc1=>?_)
 ·replace hc1:=xU hc1
  have hi2:=hc1
  have z0:Bn (⟨0,0⟩:Pt)<=10:=by decide +kernel
  have z1:=hz (ts.getD i (0,0,0)).1
  have z2:=hz (ts.getD i (0,0,0)).2.1
  have z3:=hz (ts.getD i (0,0,0)).2.2
  have y1:=JV (hz (ts.getD i (0,0,0)).1)
  have y2:=JV (hz (ts.getD i (0,0,0)).2.1)
  have y3:=JV (hz (ts.getD i (0,0,0)).2.2)
  have ya:=Kf hz (ts.getD i (0,0,0))
  have yt:=Wc hz (ts.getD i (0,0,0))
  have yl:=Rm hz (ts.getD i (0,0,0))
  have ys:=KR hz ts i
  refine zC (q1 (zI (q4 (AM O (asg' O (q3 (sL [1,2,3,4,20,21,5] O) (Ai 3 Bg O (AM O (C7 call55 (λw hw=>Oh x i hi2 (CQ hnb hi2) w (Cd hw 4 O lx)) O (AM O (AC (AJ (v:=(aG (AZ (cor ps (ts.getD i (0,0,0)).1)))) O O) O ?_)))))))))))
  refine AC (AJ (v:=(aG (AZ (cor ps (ts.getD i (0,0,0)).2.1)))) O O) O (AC (AJ (v:=(aG (AZ (cor ps (ts.getD i (0,0,0)).2.2)))) O O) O (al Ep O λb5=>al Ep O λb6=>al Ep O λb7=>Lv O sizeOf78 O (CS O sizeOf78 O (Ah O sizeOf78 O (q6 (sL [1,2,3,4,20,21,6,7,8] O) (rN [(0,true),(1,true),(3,true),(4,true),(6,true),(7,true),(2,false),(5,false),(8,false),(9,false),(10,false)] [⟨11,9,68,AG (0:Rat)⟩] [(12,false)] sr jV (λ_ _ d _ _ h=>by cases d<;>exact h) (FL O O DV O (Hj)) O (El 3 BC O (El 2 BC O ?_))))))))
  refine El 3 BC O (El 1 BC O (El 3 BC O (El 0 BC O (zk O λEF EL=>ck' call57 (IC (⟨0,0⟩:Pt) (cor ps (ts.getD i (0,0,0)).1) Z) O (zf sr O (zk O λEF EL=>ck' call57 (IC (⟨0,0⟩:Pt) (cor ps (ts.getD i (0,0,0)).2.1) Z) O (zf sr O (zk O λEF EL=>ck' call57 (IC (⟨0,0⟩:Pt) (cor ps (ts.getD i (0,0,0)).2.2) Z) O ?_))))))))
  refine zf sr O (zk O λEF EL=>ze (V:=λb8=>(qz (jk b8) 3 3)) (T:=68) (cs:=FJ [IT (cor ps (ts.getD i (0,0,0)).1),IT (cor ps (ts.getD i (0,0,0)).2.1),IT (cor ps (ts.getD i (0,0,0)).2.2)]) (AK O) (A7 (z:=.agg (AG (0:Rat)).toArray) (cs:=FJ [IT (cor ps (ts.getD i (0,0,0)).1),IT (cor ps (ts.getD i (0,0,0)).2.1),IT (cor ps (ts.getD i (0,0,0)).2.2)]) (pv:=[(0,(aG (AG (IT (cor ps (ts.getD i (0,0,0)).1))))),(1,(aG (AG (IT (cor ps (ts.getD i (0,0,0)).2.1))))),(2,(aG (AG (IT (cor ps (ts.getD i (0,0,0)).2.2)))))]) underlying190 sizeOf68 zeroValue68 jY jY O (RZ (IT (cor ps (ts.getD i (0,0,0)).1)) (IT (cor ps (ts.getD i (0,0,0)).2.1)) (IT (cor ps (ts.getD i (0,0,0)).2.2)))) O (BE O) λb8=>yv (sl sr) O (zk O λEF EL=>C7 call56 (λw hw=>RB (IT (cor ps (ts.getD i (0,0,0)).1)) (IT (cor ps (ts.getD i (0,0,0)).2.1)) (IT (cor ps (ts.getD i (0,0,0)).2.2)) _ _ Z w (hw.get (i:=0) O)) O (zf (sl sr) O (yH λb9=>zN O (Ah O sizeOf68 O (zG (sl (sl sr)) (zQ ?_)))))))
  refine zB (sL [1,2,3,4,20,21,6,7,8,9] O) (zA (rC [(0,true),(1,true),(2,true),(3,true),(5,true),(4,false),(6,false),(7,false)] 8 [] sr (sk (sk (sk (sk (sk (sk (sl sr))))))) jV (λ_ _ d _ _ h=>by cases d<;>exact h) (vE (v:=(aG (AG (Gz ps ts i)))) O (Ab (i:=6) (vs:=AG (Gz ps ts i)) O O Bf.a Bf.s O O) O (vE (v:=(aG (AZ (cor ps (ts.getD i (0,0,0)).1)))) O (Ab (i:=4) (vs:=AZ (cor ps (ts.getD i (0,0,0)).1)) O O BC.a BC.s O O) O (vE (v:=(aG (AZ (cor ps (ts.getD i (0,0,0)).2.1)))) O (Ab (i:=3) (vs:=AZ (cor ps (ts.getD i (0,0,0)).2.1)) O O BC.a BC.s O O) O (vE (v:=(aG (AZ (cor ps (ts.getD i (0,0,0)).2.2)))) O (Ab (i:=2) (vs:=AZ (cor ps (ts.getD i (0,0,0)).2.2)) O O BC.a BC.s O O) O (vE (v:=(aG (AG (ZR ps (ts.getD i (0,0,0)))))) O (Ab (i:=0) (vs:=AG (ZR ps (ts.getD i (0,0,0)))) O O Bf.a Bf.s O O) O (zr O (ck' call60 (Q8 (cor ps (ts.getD i (0,0,0)).1) (cor ps (ts.getD i (0,0,0)).2.1) (cor ps (ts.getD i (0,0,0)).2.2) Z) O (zp sr (zr O ?_)))))))))))
  refine ck' call59 (D7 (F9 ps (ts.getD i (0,0,0))) (ZR ps (ts.getD i (0,0,0))) Z) O (zp sr (zr O (ck' call58 (Ig (Gz ps ts i) (In ps (ts.getD i (0,0,0))) Z) O (zp sr (yJ O (Fm 6 (off:=0) (vs:=AG (Gz ps ts (i+1))) (cs':=AG (Gz ps ts (i+1))) (AK O) O sizeOf68 O (zG (sk (sk (sk (sk (sk (sk (sl sr))))))) (zQ (zB (sL [1,2,3,4,20,21,6,7,8,9] O) (zF (zA ?_)))))))))))
  exact zD (AC (AR (c:=((i+1:Nat):Int)) O O (AS (a:=i) (b:=1) Z)) O (AM O (oNl' (zB (sL [1,2,3,4,20,21,6,7,8,9] O) (zh (i+1) Z Z (sF O) (sl (sl (sl (sl (sl sr))))))))))
 ·replace hc1:=xT hc1
  have hie:i=ts.length:=by omega
  have ys:=KR hz ts ts.length
  have y3:Sz (((1:Int):Rat)/((3:Int):Rat))<=8:=by decide +kernel
  rw [hie]
  refine zU (zO (zX (zR (q2 (ck' call61 (QH (1:Int) (3:Int) Z Z Z Z Z) O (AM O (AC (AJ (v:=(aG (AG (((1:Int):Rat)/((3:Int):Rat))))) O O) O (AC (AJ (v:=(vI 0)) O O) O (al DV O λb5=>Ah O sizeOf68 O (asg' O ?_))))))))))
  exact q3 (sL [1,2,3,4,20,21,10] O) (Ai 2 Bf O (Ai 0 Bf O (ck' call59 (D7 (Gz ps ts ts.length) (((1:Int):Rat)/((3:Int):Rat)) Z) O (Gc O sizeOf68 O (oNl' (zB (sL [1,2,3,4,20,21,10] O) (zA (zH (ret_one O (Ap (i:=3) (cs:=AG (EO ps ts)) O O isAgg68 sizeOf68 O) (λw hw=>⟨rfl,hw.out⟩))))))))))
end
end Go.Proofs.YtbfdamnfcmefmaaGreatDoor
