import Derived.Test.YtpolhpjiahbidaaGreatDoorPart24
namespace Go.Proofs.YtpolhpjiahbidaaGreatDoor
open Go Go.RowKit Go.Proofs.Tryz
open Go.Value renaming slice→qz,bool→qa
set_option linter.unusedVariables false
set_option linter.unusedSimpArgs false
section
set_option maxRecDepth 100000
theorem OA {ps:List Pt} {ts:List T3} {ss:List Z3} (x:MN ps ts ss) (t:Nat) (ht:t<ts.length) (hk:LT ps.length (ts.getD t (0,0,0))=true) (w:World) {S:Nat->Prop} (hx:Ro S w x):Calls prog 88 #[(aG (CR x)),(vN t)] w (Ad w (Value.tuple #[(aG (AZ (cor ps (ts.getD t (0,0,0)).1))),(aG (AZ (cor ps (ts.getD t (0,0,0)).2.1))),(aG (AZ (cor ps (ts.getD t (0,0,0)).2.2)))])):=by
 obtain ⟨k1,k2,k3⟩:=DQ hk
 have lx:=Da (W:=w) hx
 refine Ah (args:=[(aG (CR x)),(vN t)]) (L:=[AF x.a.p (rowsL AZ ps),AF x.b.p (rowsL Ac ts),AF x.c.p (rowsL BP ss)]) func88 O O (BA O) (Db hx A7) (zM (sL [0,1] O) (q4 (BV (cs:=CR x) O λb1=>al EU O λb2=>al EU O λb3=>al EU O λb4=>q6 (sL [1,2,4,5,6] O) (q4 (AL O (AD (Aa (c:=false) O O jX) O (AL O ?_)))))))
 refine Hk O (BM (v:=(pP b1 1)) O (AA O underlying30 O sizeOf23 O) (BM (v:=(qz x.b.p ts.length x.b.c)) O (AH (i:=3) (v:=(qz x.b.p ts.length x.b.c)) O O C2.a O) (BM (v:=(vN ts.length)) O (AE O underlying23) (BM (v:=(qa false)) O (ER (c:=false) O O (by simp;omega)) (AD (v:=(qa false)) (AQ O O) O (oNl' (zB (sL [1,2,4,5,6,17] O) (zA (zT O (zC (q1 ?_)))))))))))
 refine DC (Er 8++[(8,false),(9,false),(10,true)]) sr (Am (v:=(pP b1 1)) O (AA O underlying30 O sizeOf23 O) (BU 3 (qz x.b.p ts.length x.b.c) C2 O (By O (Am (v:=(pP (pB x.b.p) (pO x.b.p+t*3))) O (AM (j:=t) O O x.b.ok underlying23 sizeOf105 O Z) (Am (v:=(aG (Ac (ts.getD t jJ)))) O (AO (vs:=Ac (ts.getD t jJ)) (i:=5) O O (Ay.ne x.b.ok Z) C8 (Af Aq _ _ _ Z) (Aq _)) (Am (v:=(pP b1 0)) O (AA O underlying30 O sizeOf28 O) (BU 3 (qz x.a.p ps.length x.a.c) C0 O (Am (v:=(vN ps.length)) O (AE O underlying28) (zN O (al HA O λb5=>zD (sl sr) ?_))))))))))
 refine zN O (Ag O sizeOf105 O (zD (sl sr) (pS' O (zQ (zB (sL [1,2,4,5,6,7,8] O) (q1 (q4 (AD (v:=(pP b5 0)) (AB (j:=0) O O underlying105 sizeOf3 O jY O) O (BF 0 (vN ((ts.getD t jJ).1)) Bm O (AL O (DH (args:=[(vN ((ts.getD t jJ).1)),(vN ps.length)]) (v:=(qa true)) call148 (λw hw=>(by have h9:=DT ((ts.getD t jJ).1) ps.length w;rw [xI Z] at h9;exact h9)) O ?_)))))))))))
 refine AD (BK (c:=false) O O) O (AL O (BM (v:=(pP b5 1)) O (AB (j:=1) O O underlying105 sizeOf3 O jY O) (BM (v:=(vN ((ts.getD t jJ).2.1))) O (AH (i:=0) (v:=(vN ((ts.getD t jJ).2.1))) O O Bm.a O) (Hk O (zh (v:=(qa true)) (Ab O) (Ar (args:=[(vN ((ts.getD t jJ).2.1)),(vN ps.length)]) O O call148) (λw hw=>(by have h9:=DT ((ts.getD t jJ).2.1) ps.length w;rw [xI Z] at h9;exact h9)) O (BA O) (BM (v:=(qa false)) O (BK (c:=false) O O) (AD (v:=(qa false)) (AQ O O) O (AL O (BM (v:=(pP b5 2)) O (AB (j:=2) O O underlying105 sizeOf3 O jY O) (BM (v:=(vN ((ts.getD t jJ).2.2))) O (AH (i:=0) (v:=(vN ((ts.getD t jJ).2.2))) O O Bm.a O) (Hk O ?_)))))))))))
 refine zh (v:=(qa true)) (Ab O) (Ar (args:=[(vN ((ts.getD t jJ).2.2)),(vN ps.length)]) O O call148) (λw hw=>(by have h9:=DT ((ts.getD t jJ).2.2) ps.length w;rw [xI Z] at h9;exact h9)) O (BA O) (BM (v:=(qa false)) O (BK (c:=false) O O) (AD (v:=(qa false)) (AQ O O) O (oNl' (zB (sL [1,2,4,5,6,7,47] O) (zA (zT O (zC (q1 (DC (Er 18++[(18,false),(19,false),(20,false)]) (sk (sl (sl (sl sr)))) (Am (v:=(pP b1 0)) O (AA O underlying30 O sizeOf28 O) (BU 1 (qz x.a.p ps.length x.a.c) C0 O ?_)))))))))))
 refine Am (v:=(pP b5 0)) O (AB (j:=0) O O underlying105 sizeOf3 O jY O) (BU 0 (vN ((ts.getD t jJ).1)) Bm O (Am (v:=(pP (pB x.a.p) (pO x.a.p+((ts.getD t jJ).1)*10))) O (AM (j:=(ts.getD t jJ).1) O O x.a.ok underlying28 sizeOf99 O Z) (Am (v:=(aG (AZ (ps.getD ((ts.getD t jJ).1) (⟨0,0⟩:Pt))))) O (AO (vs:=AZ (ps.getD ((ts.getD t jJ).1) (⟨0,0⟩:Pt))) (i:=2) O O (Ay.ne x.a.ok Z) A_ (Af An _ _ _ Z) (An _)) (Am (v:=(pP b1 0)) O (AA O underlying30 O sizeOf28 O) (BU 1 (qz x.a.p ps.length x.a.c) C0 O (Am (v:=(pP b5 1)) O (AB (j:=1) O O underlying105 sizeOf3 O jY O) (BU 0 (vN ((ts.getD t jJ).2.1)) Bm O (Am (v:=(pP (pB x.a.p) (pO x.a.p+((ts.getD t jJ).2.1)*10))) O (AM (j:=(ts.getD t jJ).2.1) O O x.a.ok underlying28 sizeOf99 O Z) (Am (v:=(aG (AZ (ps.getD ((ts.getD t jJ).2.1) (⟨0,0⟩:Pt))))) O (AO (vs:=AZ (ps.getD ((ts.getD t jJ).2.1) (⟨0,0⟩:Pt))) (i:=2) O O (Ay.ne x.a.ok Z) A_ (Af An _ _ _ Z) (An _)) (Am (v:=(pP b1 0)) O (AA O underlying30 O sizeOf28 O) (BU 1 (qz x.a.p ps.length x.a.c) C0 O ?_)))))))))))
 refine Am (v:=(pP b5 2)) O (AB (j:=2) O O underlying105 sizeOf3 O jY O) (BU 0 (vN ((ts.getD t jJ).2.2)) Bm O (Am (v:=(pP (pB x.a.p) (pO x.a.p+((ts.getD t jJ).2.2)*10))) O (AM (j:=(ts.getD t jJ).2.2) O O x.a.ok underlying28 sizeOf99 O Z) (Am (v:=(aG (AZ (ps.getD ((ts.getD t jJ).2.2) (⟨0,0⟩:Pt))))) O (AO (vs:=AZ (ps.getD ((ts.getD t jJ).2.2) (⟨0,0⟩:Pt))) (i:=2) O O (Ay.ne x.a.ok Z) A_ (Af An _ _ _ Z) (An _)) (zN O (Ge O sizeOf99 O (zD (sk (sl (sl (sl sr)))) (zN O (My O sizeOf99 O (zD (sk (sl (sl (sl sr)))) (zN O (Cd O sizeOf99 O ?_)))))))))))
 exact zD (sk (sl (sl (sl sr)))) (zQ (zB (sL [1,2,4,5,6,7] O) (zA (zF (E6 O (Ao (i:=3) (cs:=AZ (ps.getD ((ts.getD t jJ).1) (⟨0,0⟩:Pt))) O O isAgg99 sizeOf99 O) (Ao (i:=2) (cs:=AZ (ps.getD ((ts.getD t jJ).2.1) (⟨0,0⟩:Pt))) O O isAgg99 sizeOf99 O) (Ao (i:=1) (cs:=AZ (ps.getD ((ts.getD t jJ).2.2) (⟨0,0⟩:Pt))) O O isAgg99 sizeOf99 O) (λw hw=>⟨rfl,hw.out⟩))))))
theorem Ky  :Instr.fill ([(0,3),(3,2)].toArray[·]?) (AC (0:Rat)).toArray []=some (AC (0:Rat)).toArray:=by kernel_rfl
theorem Kz  :Instr.fill ([(0,5),(5,5)].toArray[·]?) (AZ (⟨0,0⟩:Pt)).toArray []=some (AZ (⟨0,0⟩:Pt)).toArray:=by kernel_rfl
set_option maxHeartbeats 1000000 in
theorem Qe {ps:List Pt} {ts:List T3} {ss:List Z3} (x:MN ps ts ss) (htl:ts.length<=8192) (hN:ps.length<=1000000) (hz:∀k,Bc (cor ps k)<=1000) (hnb:Be ps.length ts=true) (w:World) {S:Nat->Prop} (hx:Ro S w x):Calls prog 31 #[(aG (CR x))] w (Ad w (aG (AC (I7 ps ts)))):=by
 have lx:=Da (W:=w) hx
 refine Ah (args:=[(aG (CR x))]) (L:=[AF x.a.p (rowsL AZ ps),AF x.b.p (rowsL Ac ts),AF x.c.p (rowsL BP ss)]) func31 O O (BA O) (Db hx A7) (zM (sL [0] O) (q4 (BV (cs:=CR x) O λb1=>al Dg O λb2=>q3 (sL [1,2] O) (AD (v:=(aG (AC (0:Rat)))) (AP (zs:=AC (0:Rat)) (vs:=AC (0:Rat)) (pv:=[]) (places:=[(0,3),(3,2)]) zeroValue77 underlying77 (λw=>by simp [sizeOf71,sizeOf75]) O (Ky )) O (AD (v:=(aG (AZ (⟨0,0⟩:Pt)))) (AP (zs:=AZ (⟨0,0⟩:Pt)) (vs:=AZ (⟨0,0⟩:Pt)) (pv:=[]) (places:=[(0,5),(5,5)]) zeroValue99 underlying99 (λw=>by simp [sizeOf77]) O (Kz )) O (al Dg O λb3=>al EU O λb4=>Cd O sizeOf77 O (Ag O sizeOf99 O ?_)))))))
 refine q6 (sL [1,2,3,4] O) (q4 (Al 3 Bz O (DH (args:=[(aG (CR x))]) (v:=(qa true)) call43 (λw hw=>(by obtain ⟨y2,hy2,hro⟩:=RD x;have h9:=TX y2.rq (by rw [xK];omega) w (cj (hro (Co hw 4 O lx)));rw [Sa,hnb,show bK y2.rq=CR x from hy2] at h9;exact h9)) O (AD (BK (c:=false) O O) O (oNl' (zB (sL [1,2,3,4,16] O) (zA (zT O (zC (q1 (q4 ?_)))))))))))
 refine AD (v:=(pP b1 1)) (AA O underlying30 O sizeOf23 O) O (BF 3 (qz x.b.p ts.length x.b.c) C2 O (AD (v:=(vN ts.length)) (AE O underlying23) O (AL O (oNl' (zB (sL [1,2,3,4,20,21] O) (zA (zJ ?_)))))))
 refine zw (tg λ(i:Nat)=>i<=ts.length) (tg λ(i:Nat)=>[(1,(pP b1 0)),(2,(pP b2 0)),(3,(pP b3 0)),(4,(pP b4 0)),(20,(vN ts.length)),(21,(vN i))]) (tg λ(i:Nat)=>[AX b4 99 (AZ (⟨0,0⟩:Pt)),AX b3 77 (AC (Jq ps ts i)),AX b2 77 (AC (0:Rat)),AX b1 30 (CR x),AF x.a.p (rowsL AZ ps),AF x.b.p (rowsL Ac ts),AF x.c.p (rowsL BP ss)]) (tg λ(i:Nat)=>ts.length-i) 0 (xJ _) (sF O) sr (λi hJ=>?_)
 have hi:=hJ
 refine q4 (AD (Aa (c:=(decide (i<ts.length))) O O (DB (a:=i) (b:=ts.length))) O (oNl' (q1 ?_)))
 refine zL O (λhc1=>?_) (λhc1=>?_)
 ·replace hc1:=xT hc1
  have hi2:=hc1
  have z0:Bc (⟨0,0⟩:Pt)<=10:=by decide +kernel
  have z1:=hz (ts.getD i (0,0,0)).1
  have z2:=hz (ts.getD i (0,0,0)).2.1
  have z3:=hz (ts.getD i (0,0,0)).2.2
  have y1:=JN (hz (ts.getD i (0,0,0)).1)
  have y2:=JN (hz (ts.getD i (0,0,0)).2.1)
  have y3:=JN (hz (ts.getD i (0,0,0)).2.2)
  have ya:=RZ hz (ts.getD i (0,0,0))
  have yt:=V7 hz (ts.getD i (0,0,0))
  have yl:=RA hz (ts.getD i (0,0,0))
  have ys:=Ni hz ts i
  refine zC (q1 (zJ (q4 (AL O (asg' O (q3 (sL [1,2,3,4,20,21,5] O) (Al 3 Bz O (AL O (DH call88 (λw hw=>OA x i hi2 (Cb hnb hi2) w (Co hw 4 O lx)) O (AL O (AD (AK (v:=(aG (AZ (cor ps (ts.getD i (0,0,0)).1)))) O O) O ?_)))))))))))
  refine AD (AK (v:=(aG (AZ (cor ps (ts.getD i (0,0,0)).2.1)))) O O) O (AD (AK (v:=(aG (AZ (cor ps (ts.getD i (0,0,0)).2.2)))) O O) O (al EU O λb5=>al EU O λb6=>al EU O λb7=>My O sizeOf99 O (Cd O sizeOf99 O (Ag O sizeOf99 O (q6 (sL [1,2,3,4,20,21,6,7,8] O) (rN [(0,true),(1,true),(3,true),(4,true),(6,true),(7,true),(2,false),(5,false),(8,false),(9,false),(10,false)] [⟨11,9,77,AC (0:Rat)⟩] [(12,false)] sr jV (λ_ _ d _ _ h=>by cases d<;>exact h) (FN O O Dg O (Hf)) O (Ei 3 A_ O (Ei 2 A_ O ?_))))))))
  refine Ei 3 A_ O (Ei 1 A_ O (Ei 3 A_ O (Ei 0 A_ O (zj O λEF EL=>ck' call71 (H7 (⟨0,0⟩:Pt) (cor ps (ts.getD i (0,0,0)).1) Z) O (zg sr O (zj O λEF EL=>ck' call71 (H7 (⟨0,0⟩:Pt) (cor ps (ts.getD i (0,0,0)).2.1) Z) O (zg sr O (zj O λEF EL=>ck' call71 (H7 (⟨0,0⟩:Pt) (cor ps (ts.getD i (0,0,0)).2.2) Z) O ?_))))))))
  refine zg sr O (zj O λEF EL=>zZ (V:=λb8=>(qz (jk b8) 3 3)) (T:=77) (cs:=FJ [Jv (cor ps (ts.getD i (0,0,0)).1),Jv (cor ps (ts.getD i (0,0,0)).2.1),Jv (cor ps (ts.getD i (0,0,0)).2.2)]) (AI O) (Az (z:=.agg (AC (0:Rat)).toArray) (cs:=FJ [Jv (cor ps (ts.getD i (0,0,0)).1),Jv (cor ps (ts.getD i (0,0,0)).2.1),Jv (cor ps (ts.getD i (0,0,0)).2.2)]) (pv:=[(0,(aG (AC (Jv (cor ps (ts.getD i (0,0,0)).1))))),(1,(aG (AC (Jv (cor ps (ts.getD i (0,0,0)).2.1))))),(2,(aG (AC (Jv (cor ps (ts.getD i (0,0,0)).2.2)))))]) underlying219 sizeOf77 zeroValue77 jY jY O (Q1 (Jv (cor ps (ts.getD i (0,0,0)).1)) (Jv (cor ps (ts.getD i (0,0,0)).2.1)) (Jv (cor ps (ts.getD i (0,0,0)).2.2)))) O (BA O) λb8=>yw (sl sr) O (zj O λEF EL=>DH call89 (λw hw=>Qf (Jv (cor ps (ts.getD i (0,0,0)).1)) (Jv (cor ps (ts.getD i (0,0,0)).2.1)) (Jv (cor ps (ts.getD i (0,0,0)).2.2)) _ _ Z w (hw.get (i:=0) O)) O (zg (sl sr) O (yH λb9=>zN O (Ag O sizeOf77 O (zD (sl (sl sr)) (zQ ?_)))))))
  refine zB (sL [1,2,3,4,20,21,6,7,8,9] O) (zA (rC [(0,true),(1,true),(2,true),(3,true),(5,true),(4,false),(6,false),(7,false)] 8 [] sr (sk (sk (sk (sk (sk (sk (sl sr))))))) jV (λ_ _ d _ _ h=>by cases d<;>exact h) (vE (v:=(aG (AC (Jq ps ts i)))) O (Aj (i:=6) (vs:=AC (Jq ps ts i)) O O Ba.a Ba.s O O) O (vE (v:=(aG (AZ (cor ps (ts.getD i (0,0,0)).1)))) O (Aj (i:=4) (vs:=AZ (cor ps (ts.getD i (0,0,0)).1)) O O A_.a A_.s O O) O (vE (v:=(aG (AZ (cor ps (ts.getD i (0,0,0)).2.1)))) O (Aj (i:=3) (vs:=AZ (cor ps (ts.getD i (0,0,0)).2.1)) O O A_.a A_.s O O) O (vE (v:=(aG (AZ (cor ps (ts.getD i (0,0,0)).2.2)))) O (Aj (i:=2) (vs:=AZ (cor ps (ts.getD i (0,0,0)).2.2)) O O A_.a A_.s O O) O (vE (v:=(aG (AC (Z9 ps (ts.getD i (0,0,0)))))) O (Aj (i:=0) (vs:=AC (Z9 ps (ts.getD i (0,0,0)))) O O Ba.a Ba.s O O) O (zx O (ck' call92 (Wq (cor ps (ts.getD i (0,0,0)).1) (cor ps (ts.getD i (0,0,0)).2.1) (cor ps (ts.getD i (0,0,0)).2.2) Z) O (zu sr (zx O ?_)))))))))))
  refine ck' call91 (Du (WN ps (ts.getD i (0,0,0))) (Z9 ps (ts.getD i (0,0,0))) Z) O (zu sr (zx O (ck' call90 (HO (Jq ps ts i) (SJ ps (ts.getD i (0,0,0))) Z) O (zu sr (yJ O (F8 6 (off:=0) (vs:=AC (Jq ps ts (i+1))) (cs':=AC (Jq ps ts (i+1))) (AI O) O sizeOf77 O (zD (sk (sk (sk (sk (sk (sk (sl sr))))))) (zQ (zB (sL [1,2,3,4,20,21,6,7,8,9] O) (zG (zA ?_)))))))))))
  exact zH (AD (AT (c:=((i+1:Nat):Int)) O O (AV (a:=i) (b:=1) Z)) O (AL O (oNl' (zB (sL [1,2,3,4,20,21,6,7,8,9] O) (zl (i+1) Z Z (sF O) (sl (sl (sl (sl (sl sr))))))))))
 ·replace hc1:=xS hc1
  have hie:i=ts.length:=by omega
  have ys:=Ni hz ts ts.length
  have y3:Sz (((1:Int):Rat)/((3:Int):Rat))<=8:=by decide +kernel
  rw [hie]
  refine zU (zO (zW (zP (q2 (ck' call93 (Pn (1:Int) (3:Int) Z Z Z Z Z) O (AL O (AD (AK (v:=(aG (AC (((1:Int):Rat)/((3:Int):Rat))))) O O) O (AD (AK (v:=(vI 0)) O O) O (al Dg O λb5=>Ag O sizeOf77 O (asg' O ?_))))))))))
  exact q3 (sL [1,2,3,4,20,21,10] O) (Al 2 Ba O (Al 0 Ba O (ck' call91 (Du (Jq ps ts ts.length) (((1:Int):Rat)/((3:Int):Rat)) Z) O (Ge O sizeOf77 O (oNl' (zB (sL [1,2,3,4,20,21,10] O) (zA (zF (ret_one O (Ao (i:=3) (cs:=AC (I7 ps ts)) O O isAgg77 sizeOf77 O) (λw hw=>⟨rfl,hw.out⟩))))))))))
end
section
set_option maxRecDepth 100000
theorem Oo {ps:List Pt} {us:List T3} {ss:List Z3} (pa tp pc:Option Addr) (ka tk kc tc n:Nat) (okA:Ay pa ps.length ka) (okB:Ay tp n tk) (okC:Ay pc ss.length kc) (hn:us.length=n) (hnb:Be ps.length us=true) (htl:n<=1000000) (hN:ps.length<=1000000) (hz:∀i,Bc (cor ps i)<=200000) (ho1:OwnOk tp n tc) (w:World) {w0:BC} {LR:List As} (he0:w0.ex=none) (ha:∀b,pa.map (·.block)=some b->w0.w.heap.size<=b) (hc:∀b,pc.map (·.block)=some b->w0.w.heap.size<=b) (hW:BD w0 w (rowW tp 105 3 n tc (rowsL Ac us)::AF pa (rowsL AZ ps)::AF pc (rowsL BP ss)::LR)) :
  Calls prog 129 #[aG [.slice pa ps.length ka,.slice tp n tk,.slice pc ss.length kc]] w (λe w'=>e=.returned (qa (H1 ps us))/\∃u:Unit,True/\BD w0 w' (rowW tp 105 3 n tc (rowsL Ac (FR ps us))::AF pa (rowsL AZ ps)::AF pc (rowsL BP ss)::LR)):=by
 subst hn
 exact VQ (⟨⟨pa,ka,okA⟩,⟨tp,tk,okB⟩,⟨pc,kc,okC⟩⟩:MN ps us ss) tc hnb htl hN hz ho1 w he0 ha hc hW
set_option maxHeartbeats 1000000 in
theorem Wu {ps:List Pt} {ts:List T3} {ss:List Z3} (x:MN ps ts ss) (hnb:Be ps.length ts=true) (htl:ts.length<=1000000) (hN:ps.length<=1000000) (hsl:ss.length<=1000000) (hz:∀i,Bc (cor ps i)<=200000) (hC:∀(w:World) (S:Nat->Prop),Ro S w x->Calls prog 128 #[(aG (CR x))] w (Ad w (vN 0))) (h1v:H1 ps ts=true) (h2:H1 ps (FR ps ts)=false) (hnb2:Be ps.length (FR ps ts)=true) (w:World) {S:Nat->Prop} (hx:Ro S w x):Calls prog 76 #[(aG (CR x))] w (Bf (aW ps (FR ps ts) ss 1 0) S w):=by
 have lx:=Da (W:=w) hx
 refine Ah (args:=[(aG (CR x))]) (L:=[AF x.a.p (rowsL AZ ps),AF x.b.p (rowsL Ac ts),AF x.c.p (rowsL BP ss)]) func76 O O (BA O) (Db hx A7) (zM (sL [0] O) (q4 (BV (cs:=CR x) O λb1=>al Hh O λb2=>asg' O (asg' O (q6 (sL [1,2,3,4] O) (q4 (Al 1 Bz O (DH call128 (λw hw=>hC w _ (Co hw 2 O lx)) O (asg' O ?_)))))))))
 refine q3 (sL [1,2,3,4] O) (AL O (AD (CT (c:=false) O O jY) O (oNl' (zB (sL [1,2,3,4,8] O) (zA (zT O (zC (q2 (Al 1 Bz O (yD (S:=S) (V:=λa:Yv ps ts ss=>aG (aO a)) (LW:=aP) (args:=[(aG (CR x))]) call35 (λw hw=>IG x Z Z Z w (Co hw 2 O lx)) O λcp hcp=>Ge O sizeOf30 O ?_))))))))))
 refine q6 (sL [1,2,3,4] O) (zJ (yC 2 (zf (zX (q4 (Al 3 Bz O (zz 2 O cp.a.ok (AS An _) O O λhn_cp_a=>zz 0 O cp.c.ok (AS Cu _) O O λhn_cp_c=>yX (v:=qa true) (α:=Unit) (K:=λ_=>True) (LO:=λ_=>[AF cp.c.p (rowsL BP ss),rowW cp.b.p 105 3 ts.length cp.b.c (rowsL Ac (FR ps ts)),AF cp.a.p (rowsL AZ ps),AX b2 30 ([(qz cp.a.p ps.length ps.length),(qz cp.b.p ts.length ts.length),(qz cp.c.p ss.length ss.length)]),AX b1 30 (CR x),AF x.a.p (rowsL AZ ps),AF x.b.p (rowsL Ac ts),AF x.c.p (rowsL BP ss)]) (AI O) (Df (args:=[(aG ([(qz cp.a.p ps.length ps.length),(qz cp.b.p ts.length ts.length),(qz cp.c.p ss.length ss.length)]))]) (caps:=[]) (all:=[(aG ([(qz cp.a.p ps.length ps.length),(qz cp.b.p ts.length ts.length),(qz cp.c.p ss.length ss.length)]))]) O O O call129) (DS [1,2,0,3,4,5,6,7] (show List.Perm [1,2,0,3,4,5,6,7] (List.range 8) by decide) O) (λw hw=>(Oo (us:=ts) cp.a.p cp.b.p cp.c.p ps.length ts.length ss.length cp.b.c ts.length cp.a.ok.clip cp.b.ok.clip cp.c.ok.clip O hnb htl hN hz cp.b.ok w O hn_cp_a hn_cp_c (LR:=[AX b2 30 ([(qz cp.a.p ps.length ps.length),(qz cp.b.p ts.length ts.length),(qz cp.c.p ss.length ss.length)]),AX b1 30 (CR x),AF x.a.p (rowsL AZ ps),AF x.b.p (rowsL Ac ts),AF x.c.p (rowsL BP ss)]) hw).mono λe w' ⟨h1,t,h3,h4⟩=>(by  exact ⟨by rw [h1,h1v],t,h3,h4.perm (DS [2,0,1,3,4,5,6,7] (show List.Perm [2,0,1,3,4,5,6,7] (List.range 8) by decide) O)⟩)) (λd hd=>by cases hd<;>exact (BA O)) λ_ _=>oNl' (zB (sL [1,2,3,4,14] O) ?_))))))))
 refine zA (zV O (zC (zA (zJ (zH (AL O (AD (AT (c:=(1:Int)) O O jY) O (asg' O (oNl' (zB (sL [1,2,3,4] O) (zG ?_)))))))))))
 refine zk (zf (zX (q4 (Al 3 Bz O (yX (v:=qa false) (α:=Unit) (K:=λ_=>True) (LO:=λ_=>[AF cp.c.p (rowsL BP ss),rowW cp.b.p 105 3 ts.length cp.b.c (rowsL Ac (FR ps ts)),AF cp.a.p (rowsL AZ ps),AX b2 30 ([(qz cp.a.p ps.length ps.length),(qz cp.b.p ts.length ts.length),(qz cp.c.p ss.length ss.length)]),AX b1 30 (CR x),AF x.a.p (rowsL AZ ps),AF x.b.p (rowsL Ac ts),AF x.c.p (rowsL BP ss)]) (AI O) (Df (args:=[(aG ([(qz cp.a.p ps.length ps.length),(qz cp.b.p ts.length ts.length),(qz cp.c.p ss.length ss.length)]))]) (caps:=[]) (all:=[(aG ([(qz cp.a.p ps.length ps.length),(qz cp.b.p ts.length ts.length),(qz cp.c.p ss.length ss.length)]))]) O O O call129) (DS [1,2,0,3,4,5,6,7] (show List.Perm [1,2,0,3,4,5,6,7] (List.range 8) by decide) O) (λw hw=>(Oo (us:=(FR ps ts)) cp.a.p cp.b.p cp.c.p ps.length ts.length ss.length cp.b.c ts.length cp.a.ok.clip cp.b.ok.clip cp.c.ok.clip Id hnb2 htl hN hz cp.b.ok w O hn_cp_a hn_cp_c (LR:=[AX b2 30 ([(qz cp.a.p ps.length ps.length),(qz cp.b.p ts.length ts.length),(qz cp.c.p ss.length ss.length)]),AX b1 30 (CR x),AF x.a.p (rowsL AZ ps),AF x.b.p (rowsL Ac ts),AF x.c.p (rowsL BP ss)]) hw).mono λe w' ⟨h1,t,h3,h4⟩=>(by rw [VP h2] at h4;exact ⟨by rw [h1,h2],t,h3,h4.perm (DS [2,0,1,3,4,5,6,7] (show List.Perm [2,0,1,3,4,5,6,7] (List.range 8) by decide) O)⟩)) (λd hd=>by cases hd<;>exact (BA O)) λ_ _=>oNl' (zB (sL [1,2,3,4,14] O) (zA (zT O (zU (zO ?_))))))))))
 refine zO (zP (q2 (Al 3 Bz O (AL O (zz 1 O cp.b.ok (by rw [AS Aq,Id]) O O λhn_cp_b=>Ge O sizeOf30 O (asg' O (asg' O (oNl' (zB (sL [1,2,3,4] O) (zA ?_))))))))))
 exact zF (E6 O (Ao (i:=3) (cs:=[(qz cp.a.p ps.length ps.length),(qz cp.b.p ts.length ts.length),(qz cp.c.p ss.length ss.length)]) O O isAgg30 sizeOf30 O) (rd_tmp (v:=(vI 1)) O) (rd_tmp (v:=(vI 0)) O) (λw hw=>(Zt hw (a:=(⟨(⟨⟨cp.a.p,ps.length,cp.a.ok.clip⟩,⟨cp.b.p,ts.length,(Id (ps:=ps) (ts:=ts)).symm▸cp.b.ok.clip⟩,⟨cp.c.p,ss.length,cp.c.ok.clip⟩⟩:MN ps (FR ps ts) ss)⟩:aW ps (FR ps ts) ss 1 0)) (Uq hw [2,1,0] O (At.mn (At.new hn_cp_a) (At.new hn_cp_b) (At.new hn_cp_c))) (by show _=Value.tuple #[aG [.slice cp.a.p ps.length ps.length,.slice cp.b.p (FR ps ts).length ts.length,.slice cp.c.p ss.length ss.length],vN 1,vN 0];rw [Id];rfl))))
end
section
set_option maxRecDepth 100000
theorem Ms (p q:Pt) (hp:Bc p<=1000) (hq:Bc q<=1000) (w:World)  :Calls prog 223 #[(aG (AZ p)),(aG (AZ q))] w (Ad w (qa (decide (U8 p q)))):=by
 have y1:=Dh p
 have y2:=Dh q
 have y3:=Di p
 have y4:=Di q
 refine AY (args:=[(aG (AZ p)),(aG (AZ q))]) func223 O O (BA O) (zM (sL [0,1] O) (q4 (BV (cs:=AZ p) O λb1=>BV (cs:=AZ q) O λb2=>asg' O (q6 (sL [2,3,4] O) (q4 (AD (v:=(pP b1 0)) (AA O underlying99 O sizeOf77 O) O (Dy 1 (AC p.x) Ba O (AD (v:=(pP b2 0)) (AA O underlying99 O sizeOf77 O) O (Dy 0 (AC q.x) Ba O ?_)))))))))
 refine ck' call72 (Qz p.x q.x Z) O (asg' O (q3 (sL [2,3,4,5] O) (AL O (AD (CT (c:=(decide ((Gu p.x q.x)≠(0:Int)))) O O O) O (oNl' (zB (sL [2,3,4,5,12] O) (zA ?_)))))))
 refine zL O (λhc0=>?_) (λhc0=>?_)
 ·replace hc0:=xT hc0
  exact q4 (AL O (AD (Aa (c:=(decide ((Gu p.x q.x)<(0:Int)))) O O O) O (asg' O (oNl' (zB (sL [2,3,4,5] O) (zA (zF (zK (ret_one O (rd_tmp (v:=(qa (decide ((Gu p.x q.x)<(0:Int))))) O) (λw hw=>⟨by rw [Zg hc0],hw.out⟩))))))))))
 ·replace hc0:=xS hc0
  refine zC (q2 (AD (v:=(pP b1 5)) (AA O underlying99 O sizeOf77 O) O (Dy 1 (AC p.y) Ba O (AD (v:=(pP b2 5)) (AA O underlying99 O sizeOf77 O) O (Dy 0 (AC q.y) Ba O (ck' call72 (Qz p.y q.y Z) O (AD (Aa (c:=(decide ((Gu p.y q.y)<(0:Int)))) O O O) O (asg' O (oNl' (zB (sL [2,3,4,5] O) (zA ?_)))))))))))
  exact zF (ret_one O (rd_tmp (v:=(qa (decide ((Gu p.y q.y)<(0:Int))))) O) (λw hw=>⟨by rw [Zh (Decidable.not_not.1 hc0)],hw.out⟩))
end
section
set_option maxRecDepth 100000
theorem ZE (t:T3) (p:Nat) (y:RX (Ac t) 3) (w:World) {S:Nat->Prop} (hy:Ro S w y):Calls prog 260 #[(qz y.p 3 y.c),(vN p)] w (Ad w (vI (Uv t p))):=by
 have ly:=Da (W:=w) hy
 refine Ah (args:=[(qz y.p 3 y.c),(vN p)]) (L:=[AF y.p (Ac t)]) func260 O O (BA O) (Db hy A7) (zM (sL [0,1] O) (q4 (asg' O (oNl' (q1 (q4 (AL O (AD (v:=(vI 3)) (AE O underlying32) O (AL O (oNl' (zB (sL [0,1,4,7,8] O) ?_)))))))))))
 refine zA (zJ (yC 4 (zf (q4 (AD (Aa (c:=true) O O jY) O (oNl' (q1 (zV O (zC (q1 (zJ ?_)))))))))))
 refine q4 (AL O (asg' O (q3 (sL [0,1,4,7,8,5] O) (AL O (AL O (AL O (AD (v:=(pP (pB y.p) (pO y.p+0*1))) (AM (j:=0) O O y.ok underlying32 sizeOf3 O Z) O (AD (BG (v:=(vN t.1)) (i:=0) O O (y.ok.ne Z) Bm O) O (AD (BL (c:=(decide (p=t.1))) O O (N9 (a:=p) (b:=t.1))) O (oNl' (zB (sL [0,1,4,7,8,5,16] O) ?_)))))))))))
 refine zA ?_
 refine zL O (λhc1=>?_) (λhc1=>?_)
 ·replace hc1:=xT hc1
  have hr:Uv t p=0:=by unfold Uv;rw [if_pos hc1]
  exact q4 (AL O (asg' O (oNl' (zB (sL [0,1,4,7,8,5] O) (zA (zF (zS (zK (zK (zS (zK (ret_one O (rd_tmp (v:=(vI 0)) O) (λw hw=>⟨by rw [hr]<;>rfl,hw.out⟩)))))))))))))
 ·replace hc1:=xS hc1
  have k0:=hc1
  refine zC (zG (zA (zH (AD (AT (c:=(1:Int)) O O jY) O (AL O (oNl' (zB (sL [0,1,4,7,8,5] O) (zk (zf (q4 (AD (Aa (c:=true) O O jY) O ?_)))))))))))
  refine oNl' (q1 (zV O (zC (q1 (zJ (q4 (AL O (asg' O (q3 (sL [0,1,4,7,8,5] O) (AL O (AL O ?_)))))))))))
  refine AL O (AD (v:=(pP (pB y.p) (pO y.p+1*1))) (AM (j:=1) O O y.ok underlying32 sizeOf3 O Z) O (AD (BG (v:=(vN t.2.1)) (i:=0) O O (y.ok.ne Z) Bm O) O (AD (BL (c:=(decide (p=t.2.1))) O O (N9 (a:=p) (b:=t.2.1))) O (oNl' (zB (sL [0,1,4,7,8,5,16] O) (zA ?_))))))
  refine zL O (λhc1=>?_) (λhc1=>?_)
  ·replace hc1:=xT hc1
   have hr:Uv t p=1:=by unfold Uv;rw [if_neg k0,if_pos hc1]
   exact q4 (AL O (asg' O (oNl' (zB (sL [0,1,4,7,8,5] O) (zA (zF (zS (zK (zK (zS (zK (ret_one O (rd_tmp (v:=(vI 1)) O) (λw hw=>⟨by rw [hr]<;>rfl,hw.out⟩)))))))))))))
  ·replace hc1:=xS hc1
   have k1:=hc1
   refine zC (zG (zA (zH (AD (AT (c:=(2:Int)) O O jY) O (AL O (oNl' (zB (sL [0,1,4,7,8,5] O) (zk (zf (q4 (AD (Aa (c:=true) O O jY) O ?_)))))))))))
   refine oNl' (q1 (zV O (zC (q1 (zJ (q4 (AL O (asg' O (q3 (sL [0,1,4,7,8,5] O) (AL O (AL O ?_)))))))))))
   refine AL O (AD (v:=(pP (pB y.p) (pO y.p+2*1))) (AM (j:=2) O O y.ok underlying32 sizeOf3 O Z) O (AD (BG (v:=(vN t.2.2)) (i:=0) O O (y.ok.ne Z) Bm O) O (AD (BL (c:=(decide (p=t.2.2))) O O (N9 (a:=p) (b:=t.2.2))) O (oNl' (zB (sL [0,1,4,7,8,5,16] O) (zA ?_))))))
   refine zL O (λhc1=>?_) (λhc1=>?_)
   ·replace hc1:=xT hc1
    have hr:Uv t p=2:=by unfold Uv;rw [if_neg k0,if_neg k1,if_pos hc1]
    exact q4 (AL O (asg' O (oNl' (zB (sL [0,1,4,7,8,5] O) (zA (zF (zS (zK (zK (zS (zK (ret_one O (rd_tmp (v:=(vI 2)) O) (λw hw=>⟨by rw [hr]<;>rfl,hw.out⟩)))))))))))))
   ·replace hc1:=xS hc1
    have k2:=hc1
    have hr:Uv t p = -1:=by unfold Uv;rw [if_neg k0,if_neg k1,if_neg k2]
    refine zC (zG (zA (zH (AD (AT (c:=(3:Int)) O O jY) O (AL O (oNl' (zB (sL [0,1,4,7,8,5] O) (zk (zf (q4 (AD (Aa (c:=false) O O jY) O ?_)))))))))))
    refine oNl' (q1 (zT O (zU (zO (zO (zP (q2 (asg' O (oNl' (zB (sL [0,1,4,7,8,5] O) (zA ?_)))))))))))
    exact zF (ret_one O (rd_tmp (v:=(vI (-1:Int))) O) (λw hw=>⟨by rw [hr]<;>rfl,hw.out⟩))
theorem TK (t:T3) (p:Nat) (y:RX (Ac t) 3) (w:World) {S:Nat->Prop} (hy:Ro S w y):Calls prog 227 #[(qz y.p 3 y.c),(vN p)] w (Ad w (qa (CO t p))):=by
 have ly:=Da (W:=w) hy
 refine Ah (args:=[(qz y.p 3 y.c),(vN p)]) (L:=[AF y.p (Ac t)]) func227 O O (BA O) (Db hy A7) (zM (sL [0,1] O) (q4 (asg' O (oNl' (q2 (AL O (AL O (DH call260 (λw hw=>ZE t p y w (Co hw 0 O ly)) O (AD (ER (c:=(CO t p)) O O (Xo t p)) O (asg' O (oNl' ?_)))))))))))
 exact zB (sL [4] O) (zA (zF (ret_one O (rd_tmp (v:=(qa (CO t p))) O) (λw hw=>⟨rfl,hw.out⟩))))
theorem Ee (x0:Pt) (x1:Pt) (x2:Pt):Instr.fill (λi=>some (i*10,10)) (H8 ((⟨0,0⟩,⟨0,0⟩,⟨0,0⟩):Q3)).toArray [(0,.agg (AZ x0).toArray),(1,.agg (AZ x1).toArray),(2,.agg (AZ x2).toArray)]=some (AZ x0++AZ x1++AZ x2).toArray:=by kernel_rfl
theorem Km {ps:List Pt} {ts ss:List T3} (x:MX ps ts ss) (t:Nat) (ht:t<ts.length) (htl:ts.length<=1000000) (hp:ps.length<=1000000) (hk:LT ps.length (ts.getD t (0,0,0))=true) (w:World) {S:Nat->Prop} (hx:Ro S w x):Calls prog 225 #[(aG (Dj x)),(vN t)] w (Ad w (aG (H8 (Bn ps (ts.getD t (0,0,0)))))):=by
 obtain ⟨k1,k2,k3⟩:=DQ hk
 obtain ⟨T,hT⟩:∃q,q=ts.getD t (0,0,0):=⟨_,rfl⟩
 rw [<-hT] at k1 k2 k3
 have lx:=Da (W:=w) hx
 refine Ah (args:=[(aG (Dj x)),(vN t)]) (L:=[AF x.a.p (rowsL AZ ps),AF x.b.p (rowsL Ac ts),AF x.c.p (rowsL Ac ss)]) func225 O O (BA O) (Db hx A7) (zM (sL [0,1] O) (q4 (BV (cs:=Dj x) O λb1=>al WJ O λb2=>q3 (sL [1,2,4] O) (AD (v:=(pP b1 1)) (AA O underlying30 O sizeOf23 O) O (BF 1 (qz x.b.p ts.length x.b.c) C2 O (AL O (AD (v:=(pP (pB x.b.p) (pO x.b.p+t*3))) (AM (j:=t) O O x.b.ok underlying23 sizeOf105 O Z) O (AD (v:=(aG (Ac (ts.getD t jJ)))) (AO (vs:=Ac (ts.getD t jJ)) (i:=3) O O (Ay.ne x.b.ok Z) C8 (Af Aq _ _ _ Z) (Aq _)) O (zI (k:=10) (u:=(aG (Ac T))) O (by rw [hT]) ?_)))))))))
 refine al HA O λb3=>Ag O sizeOf105 O (q6 (sL [2,4,5] O) (DC (Er 19++[(19,false)]) (sk (sl sr)) (Am (v:=(pP b1 0)) O (AA O underlying30 O sizeOf28 O) (BU 1 (qz x.a.p ps.length x.a.c) C0 O (Am (v:=(pP b3 0)) O (AB (j:=0) O O underlying105 sizeOf3 O jY O) (BU 0 (vN T.1) Bm O (Am (v:=(pP (pB x.a.p) (pO x.a.p+T.1*10))) O (AM (j:=T.1) O O x.a.ok underlying28 sizeOf99 O Z) (Am (v:=(aG (AZ (ps.getD T.1 (⟨0,0⟩:Pt))))) O (AO (vs:=AZ (ps.getD T.1 (⟨0,0⟩:Pt))) (i:=2) O O (Ay.ne x.a.ok Z) A_ (Af An _ _ _ Z) (An _)) (Am (v:=(pP b1 0)) O (AA O underlying30 O sizeOf28 O) (BU 1 (qz x.a.p ps.length x.a.c) C0 O ?_))))))))))
 refine Am (v:=(pP b3 1)) O (AB (j:=1) O O underlying105 sizeOf3 O jY O) (BU 0 (vN T.2.1) Bm O (Am (v:=(pP (pB x.a.p) (pO x.a.p+T.2.1*10))) O (AM (j:=T.2.1) O O x.a.ok underlying28 sizeOf99 O Z) (Am (v:=(aG (AZ (ps.getD T.2.1 (⟨0,0⟩:Pt))))) O (AO (vs:=AZ (ps.getD T.2.1 (⟨0,0⟩:Pt))) (i:=2) O O (Ay.ne x.a.ok Z) A_ (Af An _ _ _ Z) (An _)) (Am (v:=(pP b1 0)) O (AA O underlying30 O sizeOf28 O) (BU 1 (qz x.a.p ps.length x.a.c) C0 O (Am (v:=(pP b3 2)) O (AB (j:=2) O O underlying105 sizeOf3 O jY O) (BU 0 (vN T.2.2) Bm O (Am (v:=(pP (pB x.a.p) (pO x.a.p+T.2.2*10))) O (AM (j:=T.2.2) O O x.a.ok underlying28 sizeOf99 O Z) (Am (v:=(aG (AZ (ps.getD T.2.2 (⟨0,0⟩:Pt))))) O (AO (vs:=AZ (ps.getD T.2.2 (⟨0,0⟩:Pt))) (i:=2) O O (Ay.ne x.a.ok Z) A_ (Af An _ _ _ Z) (An _)) (Am (v:=(aG (AZ (ps.getD T.1 (⟨0,0⟩:Pt))++AZ (ps.getD T.2.1 (⟨0,0⟩:Pt))++AZ (ps.getD T.2.2 (⟨0,0⟩:Pt))))) O (Ap (zs:=H8 ((⟨0,0⟩,⟨0,0⟩,⟨0,0⟩):Q3)) (vs:=AZ (ps.getD T.1 (⟨0,0⟩:Pt))++AZ (ps.getD T.2.1 (⟨0,0⟩:Pt))++AZ (ps.getD T.2.2 (⟨0,0⟩:Pt))) (pv:=[(0,(aG (AZ (ps.getD T.1 (⟨0,0⟩:Pt))))),(1,(aG (AZ (ps.getD T.2.1 (⟨0,0⟩:Pt))))),(2,(aG (AZ (ps.getD T.2.2 (⟨0,0⟩:Pt)))))]) zeroValue291 underlying291 sizeOf99 O (Ee (ps.getD T.1 (⟨0,0⟩:Pt)) (ps.getD T.2.1 (⟨0,0⟩:Pt)) (ps.getD T.2.2 (⟨0,0⟩:Pt)))) (zN O ?_)))))))))))
 exact Cd O sizeOf291 O (zD (sk (sl sr)) (zQ (zB (sL [2,4,5] O) (zA (zF (ret_one O (Ao (i:=1) (cs:=AZ (ps.getD T.1 (⟨0,0⟩:Pt))++AZ (ps.getD T.2.1 (⟨0,0⟩:Pt))++AZ (ps.getD T.2.2 (⟨0,0⟩:Pt))) O O isAgg291 sizeOf291 O) (λw hw=>⟨by rw [<-hT];unfold Bn cor;rw [<-bA],hw.out⟩)))))))
theorem NC (r p q:Pt) (bp:BX (AZ p)) (bq:BX (AZ q)) (hs:Bc p+Bc q+Bc r<=10000000) (w:World) {S:Nat->Prop} (hbp:Ro S w bp) (hbq:Ro S w bq):Calls prog 259 #[(aG (AZ r)),(pP bp.b 0),(pP bq.b 0)] w (Ad w (qa (NY p q r))):=by
 have lbp:=Da (W:=w) hbp
 have lbq:=Da (W:=w) hbq
 refine Ah (args:=[(aG (AZ r)),(pP bp.b 0),(pP bq.b 0)]) (L:=[AF (some ⟨bp.b,0,none⟩) (AZ p),AF (some ⟨bq.b,0,none⟩) (AZ q)]) func259 O O (BA O) (Db hbp (Db hbq A7)) (zM (sL [0,1,2] O) (q4 (BV (cs:=AZ r) O λb1=>asg' O (q3 (sL [1,2,3,4] O) (AD (v:=(aG (AZ p))) (AO (q:=some ⟨bp.b,0,none⟩) (vs:=AZ p) (off:=0) (i:=1) O O (λe=>by cases e) A_ O O) O (AD (v:=(aG (AZ q))) (AO (q:=some ⟨bq.b,0,none⟩) (vs:=AZ q) (off:=0) (i:=2) O O (λe=>by cases e) A_ O O) O (Al 0 A_ O (ck' call143 (G2 p q r Z) O (AD (D_ (c:=(NY p q r)) O O O) O (asg' O ?_))))))))))
 exact oNl' (zB (sL [4] O) (zA (zF (ret_one O (rd_tmp (v:=(qa (NY p q r))) O) (λw hw=>⟨rfl,hw.out⟩)))))
theorem Za (p q:Pt) (B:Q3) (bp:BX (AZ p)) (bq:BX (AZ q)) (bo:BX (H8 B)) (hs:Bc p<=1000000/\Bc q<=1000000) (hB:Bc B.1<=1000000/\Bc B.2.1<=1000000/\Bc B.2.2<=1000000) (w:World) {S:Nat->Prop} (hbp:Ro S w bp) (hbq:Ro S w bq) (hbo:Ro S w bo):Calls prog 289 #[(qz (some ⟨bo.b,0,none⟩) 3 3),(Value.func (.func 259) #[] #[(pP bp.b 0),(pP bq.b 0)])] w (Ad w (vI (Uu p q B))):=by
 have lbp:=Da (W:=w) hbp
 have lbq:=Da (W:=w) hbq
 have lbo:=Da (W:=w) hbo
 refine Ah (args:=[(qz (some ⟨bo.b,0,none⟩) 3 3),(Value.func (.func 259) #[] #[(pP bp.b 0),(pP bq.b 0)])]) (L:=[AF (some ⟨bp.b,0,none⟩) (AZ p),AF (some ⟨bq.b,0,none⟩) (AZ q),AF (some ⟨bo.b,0,none⟩) (H8 B)]) func289 O O (BA O) (Db hbp (Db hbq (Db hbo A7))) (zM (sL [0,1] O) (q4 (asg' O (oNl' (q1 (q4 (AL O (AD (v:=(vI 3)) (AE O underlying28) O (AL O (oNl' (zB (sL [0,1,4,7,8] O) ?_)))))))))))
 refine zA (zJ (yC 4 (zf (q4 (AD (Aa (c:=true) O O jY) O (oNl' (q1 (zV O (zC (q1 (zJ ?_)))))))))))
 refine q4 (AL O (asg' O (q3 (sL [0,1,4,7,8,5] O) (AL O (AL O (AL O (AD (v:=(pP bo.b 0)) (AG (j:=0) O O underlying28 sizeOf99 O Z O) O (AD (v:=(aG (AZ B.1))) (AO (q:=some ⟨bo.b,0,none⟩) (vs:=AZ B.1) (off:=0) (i:=2) O O (λe=>by cases e) A_ O O) O (zh (v:=(qa (NY p q B.1))) (AI O) (Df (args:=[(aG (AZ B.1))]) (caps:=[(pP bp.b 0),(pP bq.b 0)]) (all:=[(aG (AZ B.1)),(pP bp.b 0),(pP bq.b 0)]) O O O call259) (λw hw=>NC B.1 p q bp bq Z w (Co hw 0 O lbp) (Co hw 1 O lbq)) O (BA O) (oNl' (zB (sL [0,1,4,7,8,5,16] O) ?_)))))))))))
 refine zA ?_
 refine zL O (λhc1=>?_) (λhc1=>?_)
 ·have hr:Uu p q B=0:=by unfold Uu;rw [if_pos hc1]
  exact q4 (AL O (asg' O (oNl' (zB (sL [0,1,4,7,8,5] O) (zA (zF (zS (zK (zK (zS (zK (ret_one O (rd_tmp (v:=(vI 0)) O) (λw hw=>⟨by rw [hr]<;>rfl,hw.out⟩)))))))))))))
 ·have k0:¬NY p q B.1=true:=by simpa using hc1
  refine zC (zG (zA (zH (AD (AT (c:=(1:Int)) O O jY) O (AL O (oNl' (zB (sL [0,1,4,7,8,5] O) (zk (zf (q4 (AD (Aa (c:=true) O O jY) O ?_)))))))))))
  refine oNl' (q1 (zV O (zC (q1 (zJ (q4 (AL O (asg' O (q3 (sL [0,1,4,7,8,5] O) (AL O (AL O ?_)))))))))))
  refine AL O (AD (v:=(pP bo.b 10)) (AG (j:=1) O O underlying28 sizeOf99 O Z O) O (AD (v:=(aG (AZ B.2.1))) (AO (q:=some ⟨bo.b,0,none⟩) (vs:=AZ B.2.1) (off:=10) (i:=2) O O (λe=>by cases e) A_ O O) O (zh (v:=(qa (NY p q B.2.1))) (AI O) (Df (args:=[(aG (AZ B.2.1))]) (caps:=[(pP bp.b 0),(pP bq.b 0)]) (all:=[(aG (AZ B.2.1)),(pP bp.b 0),(pP bq.b 0)]) O O O call259) (λw hw=>NC B.2.1 p q bp bq Z w (Co hw 0 O lbp) (Co hw 1 O lbq)) O (BA O) (oNl' (zB (sL [0,1,4,7,8,5,16] O) (zA ?_))))))
  refine zL O (λhc1=>?_) (λhc1=>?_)
  ·have hr:Uu p q B=1:=by unfold Uu;rw [if_neg k0,if_pos hc1]
   exact q4 (AL O (asg' O (oNl' (zB (sL [0,1,4,7,8,5] O) (zA (zF (zS (zK (zK (zS (zK (ret_one O (rd_tmp (v:=(vI 1)) O) (λw hw=>⟨by rw [hr]<;>rfl,hw.out⟩)))))))))))))
  ·have k1:¬NY p q B.2.1=true:=by simpa using hc1
   refine zC (zG (zA (zH (AD (AT (c:=(2:Int)) O O jY) O (AL O (oNl' (zB (sL [0,1,4,7,8,5] O) (zk (zf (q4 (AD (Aa (c:=true) O O jY) O ?_)))))))))))
   refine oNl' (q1 (zV O (zC (q1 (zJ (q4 (AL O (asg' O (q3 (sL [0,1,4,7,8,5] O) (AL O (AL O ?_)))))))))))
   refine AL O (AD (v:=(pP bo.b 20)) (AG (j:=2) O O underlying28 sizeOf99 O Z O) O (AD (v:=(aG (AZ B.2.2))) (AO (q:=some ⟨bo.b,0,none⟩) (vs:=AZ B.2.2) (off:=20) (i:=2) O O (λe=>by cases e) A_ O O) O (zh (v:=(qa (NY p q B.2.2))) (AI O) (Df (args:=[(aG (AZ B.2.2))]) (caps:=[(pP bp.b 0),(pP bq.b 0)]) (all:=[(aG (AZ B.2.2)),(pP bp.b 0),(pP bq.b 0)]) O O O call259) (λw hw=>NC B.2.2 p q bp bq Z w (Co hw 0 O lbp) (Co hw 1 O lbq)) O (BA O) (oNl' (zB (sL [0,1,4,7,8,5,16] O) (zA ?_))))))
   refine zL O (λhc1=>?_) (λhc1=>?_)
   ·have hr:Uu p q B=2:=by unfold Uu;rw [if_neg k0,if_neg k1,if_pos hc1]
    exact q4 (AL O (asg' O (oNl' (zB (sL [0,1,4,7,8,5] O) (zA (zF (zS (zK (zK (zS (zK (ret_one O (rd_tmp (v:=(vI 2)) O) (λw hw=>⟨by rw [hr]<;>rfl,hw.out⟩)))))))))))))
   ·have k2:¬NY p q B.2.2=true:=by simpa using hc1
    have hr:Uu p q B = -1:=by unfold Uu;rw [if_neg k0,if_neg k1,if_neg k2]
    refine zC (zG (zA (zH (AD (AT (c:=(3:Int)) O O jY) O (AL O (oNl' (zB (sL [0,1,4,7,8,5] O) (zk (zf (q4 (AD (Aa (c:=false) O O jY) O ?_)))))))))))
    refine oNl' (q1 (zT O (zU (zO (zO (zP (q2 (asg' O (oNl' (zB (sL [0,1,4,7,8,5] O) (zA ?_)))))))))))
    exact zF (ret_one O (rd_tmp (v:=(vI (-1:Int))) O) (λw hw=>⟨by rw [hr]<;>rfl,hw.out⟩))
theorem Nb (p q:Pt) (B:Q3) (bp:BX (AZ p)) (bq:BX (AZ q)) (bo:BX (H8 B)) (hs:Bc p<=1000000/\Bc q<=1000000) (hB:Bc B.1<=1000000/\Bc B.2.1<=1000000/\Bc B.2.2<=1000000) (w:World) {S:Nat->Prop} (hbp:Ro S w bp) (hbq:Ro S w bq) (hbo:Ro S w bo):Calls prog 258 #[(qz (some ⟨bo.b,0,none⟩) 3 3),(Value.func (.func 259) #[] #[(pP bp.b 0),(pP bq.b 0)])] w (Ad w (qa (GM p q B))):=by
 have lbp:=Da (W:=w) hbp
 have lbq:=Da (W:=w) hbq
 have lbo:=Da (W:=w) hbo
 refine Ah (args:=[(qz (some ⟨bo.b,0,none⟩) 3 3),(Value.func (.func 259) #[] #[(pP bp.b 0),(pP bq.b 0)])]) (L:=[AF (some ⟨bp.b,0,none⟩) (AZ p),AF (some ⟨bq.b,0,none⟩) (AZ q),AF (some ⟨bo.b,0,none⟩) (H8 B)]) func258 O O (BA O) (Db hbp (Db hbq (Db hbo A7))) (zM (sL [0,1] O) (q4 (asg' O (oNl' (q2 (AL O (AL O (DH call289 (λw hw=>Za p q B bp bq bo hs hB w (Co hw 0 O lbp) (Co hw 1 O lbq) (Co hw 2 O lbo)) O (AD (ER (c:=(GM p q B)) O O (Xn p q B)) O (asg' O (oNl' ?_)))))))))))
 exact zB (sL [4] O) (zA (zF (ret_one O (rd_tmp (v:=(qa (GM p q B))) O) (λw hw=>⟨rfl,hw.out⟩))))
set_option maxHeartbeats 1000000 in
theorem Tq (A B:Q3) (hA:Bc A.1<=1000000/\Bc A.2.1<=1000000/\Bc A.2.2<=1000000) (hB:Bc B.1<=1000000/\Bc B.2.1<=1000000/\Bc B.2.2<=1000000) (w:World)  :Calls prog 226 #[(aG (H8 A)),(aG (H8 B))] w (Ad w (qa (Eb A B))):=by
 refine AY (args:=[(aG (H8 A)),(aG (H8 B))]) func226 O O (BA O) (zM (sL [0,1] O) (q4 (BV (cs:=H8 A) O λb1=>BV (cs:=H8 B) O λb2=>yN 0 O O λhnb2=>asg' O (q6 (sL [2,3,4] O) (q4 (AL O (oNl' (zA ?_))))))))
 refine zJ (yC 4 (zf (q4 (AD (Aa (c:=true) O O jY) O (oNl' (q1 (zV O (zC (q1 (zJ (q4 ?_)))))))))))
 refine AL O (asg' O (q6 (sL [2,3,4,8,5] O) (rN [(0,true),(1,true),(2,true),(3,true),(4,true),(5,true),(6,true),(7,true)] [⟨8,6,99,AZ (⟨0,0⟩:Pt)⟩,⟨9,7,99,AZ (⟨0,0⟩:Pt)⟩] [(10,false),(11,false)] sr jV (λ_ _ d _ _ h=>by cases d<;>exact h) (FN O O EU O (FN O O EU O (Hf))) O (QU O (GA (v:=(pP b1 0)) O (AB (j:=0) O O underlying291 sizeOf99 O jY O) O (WQ 1 (AZ A.1) A_ O (QU O (GA O (AT (c:=(1:Int)) O O jY) O (GA O (CB (c:=(1:Int)) O O jY jY) O (GA (v:=(pP b1 10)) O (AB (j:=1) O O underlying291 sizeOf99 O jY O) O (WQ 1 (AZ A.2.1) A_ O ?_)))))))))))
 refine yY λb3 b4=>zN O (Ag O sizeOf99 O (zD (sl (sl sr)) (zN O (Cd O sizeOf99 O (zD (sl (sl sr)) (zQ (zB (sL [2,3,4,8,7,6] O) (q2 (AD (v:=(qz (jk b2) 3 3)) (FE O underlying291 sizeOf99 jY) O (yN 0 O O λhnb3=>?_))))))))))
 refine yN 1 O O λhnb4=>AD (v:=(Value.func (.func 259) #[] #[(pP b3 0),(pP b4 0)])) (DL (vs:=[]) (us:=[(pP b3 0),(pP b4 0)]) O O) O (DH call258 (λw hw=>Nb A.1 A.2.1 B ⟨b3⟩ ⟨b4⟩ ⟨b2⟩ Z hB w (Uo (S:=λ_=>False) (x:=(⟨b3⟩:BX (AZ A.1))) hw 0 O hnb3) (Uo (S:=λ_=>False) (x:=(⟨b4⟩:BX (AZ A.2.1))) hw 1 O hnb4) (Uo (S:=λ_=>False) (x:=(⟨b2⟩:BX (H8 B))) hw 2 O hnb2)) O (AD (BK (c:=(!(GM A.1 A.2.1 B))) O O) O (oNl' (zB (sL [2,3,4,8,7,6,22] O) (zA ?_)))))
 refine zL O (λhc1=>?_) (λhc1=>?_)
 ·simp only [jK] at hc1
  have hr:Eb A B=true:=by unfold Eb;rw [(by simpa using hc1:GM A.1 A.2.1 B=false)];simp
  exact q4 (asg' O (oNl' (zA (zF (zS (zK (zK (zS (zK (ret_one O (rd_tmp (v:=(qa true)) O) (λw hw=>⟨by rw [hr],hw.out⟩)))))))))))
 ·simp only [jK] at hc1
  have k0:GM A.1 A.2.1 B=true:=by simpa using hc1
  refine zC (zG (zA (zH (AD (AT (c:=(1:Int)) O O jY) O (AL O (oNl' (zB (sL [2,3,4,8,7,6] O) (zk (zf (q4 (AD (Aa (c:=true) O O jY) O ?_)))))))))))
  refine oNl' (q1 (zV O (zC (q1 (zJ (q4 (AL O (asg' O (q6 (sL [2,3,4,8,7,6,5] O) (zM (sL [2,3,4,8,5] O) (rN [(0,true),(1,true),(2,true),(3,true),(4,true),(5,true),(6,true),(7,true)] [⟨8,6,99,AZ (⟨0,0⟩:Pt)⟩,⟨9,7,99,AZ (⟨0,0⟩:Pt)⟩] [(10,false),(11,false)] sr jV (λ_ _ d _ _ h=>by cases d<;>exact h) (FN O O EU O (FN O O EU O (Hf))) O ?_)))))))))))
  refine QU O (GA (v:=(pP b1 10)) O (AB (j:=1) O O underlying291 sizeOf99 O jY O) O (WQ 3 (AZ A.2.1) A_ O (QU O (GA O (AT (c:=(2:Int)) O O jY) O (GA O (CB (c:=(2:Int)) O O jY jY) O (GA (v:=(pP b1 20)) O (AB (j:=2) O O underlying291 sizeOf99 O jY O) O (WQ 3 (AZ A.2.2) A_ O (yY λb5 b6=>zN O (Ag O sizeOf99 O (zD (sl (sl sr)) ?_))))))))))
  refine zN O (Cd O sizeOf99 O (zD (sl (sl sr)) (zQ (zB (sL [2,3,4,8,7,6] O) (q2 (AD (v:=(qz (jk b2) 3 3)) (FE O underlying291 sizeOf99 jY) O (yN 0 O O λhnb5=>yN 1 O O λhnb6=>AD (v:=(Value.func (.func 259) #[] #[(pP b5 0),(pP b6 0)])) (DL (vs:=[]) (us:=[(pP b5 0),(pP b6 0)]) O O) O (DH call258 (λw hw=>Nb A.2.1 A.2.2 B ⟨b5⟩ ⟨b6⟩ ⟨b2⟩ Z hB w (Uo (S:=λ_=>False) (x:=(⟨b5⟩:BX (AZ A.2.1))) hw 0 O hnb5) (Uo (S:=λ_=>False) (x:=(⟨b6⟩:BX (AZ A.2.2))) hw 1 O hnb6) (Uo (S:=λ_=>False) (x:=(⟨b2⟩:BX (H8 B))) hw 4 O hnb2)) O (AD (BK (c:=(!(GM A.2.1 A.2.2 B))) O O) O ?_)))))))))
  refine oNl' (zB (sL [2,3,4,8,7,6,22] O) (zA ?_))
  refine zL O (λhc1=>?_) (λhc1=>?_)
  ·simp only [jK] at hc1
   have hr:Eb A B=true:=by unfold Eb;rw [k0,(by simpa using hc1:GM A.2.1 A.2.2 B=false)];simp
   exact q4 (asg' O (oNl' (zA (zF (zS (zK (zK (zS (zK (ret_one O (rd_tmp (v:=(qa true)) O) (λw hw=>⟨by rw [hr],hw.out⟩)))))))))))
  ·simp only [jK] at hc1
   have k1:GM A.2.1 A.2.2 B=true:=by simpa using hc1
   refine zC (zG (zA (zH (AD (AT (c:=(2:Int)) O O jY) O (AL O (oNl' (zB (sL [2,3,4,8,7,6] O) (zk (zf (q4 (AD (Aa (c:=true) O O jY) O ?_)))))))))))
   refine oNl' (q1 (zV O (zC (q1 (zJ (q4 (AL O (asg' O (q6 (sL [2,3,4,8,7,6,5] O) (zM (sL [2,3,4,8,5] O) (rN [(0,true),(1,true),(2,true),(3,true),(4,true),(5,true),(6,true),(7,true)] [⟨8,6,99,AZ (⟨0,0⟩:Pt)⟩,⟨9,7,99,AZ (⟨0,0⟩:Pt)⟩] [(10,false),(11,false)] sr jV (λ_ _ d _ _ h=>by cases d<;>exact h) (FN O O EU O (FN O O EU O (Hf))) O ?_)))))))))))
   refine QU O (GA (v:=(pP b1 20)) O (AB (j:=2) O O underlying291 sizeOf99 O jY O) O (WQ 5 (AZ A.2.2) A_ O (QU O (GA O (AT (c:=(3:Int)) O O jY) O (GA O (CB (c:=(0:Int)) O O jY jY) O (GA (v:=(pP b1 0)) O (AB (j:=0) O O underlying291 sizeOf99 O jY O) O (WQ 5 (AZ A.1) A_ O (yY λb7 b8=>zN O (Ag O sizeOf99 O (zD (sl (sl sr)) ?_))))))))))
   refine zN O (Cd O sizeOf99 O (zD (sl (sl sr)) (zQ (zB (sL [2,3,4,8,7,6] O) (q2 (AD (v:=(qz (jk b2) 3 3)) (FE O underlying291 sizeOf99 jY) O (yN 0 O O λhnb7=>yN 1 O O λhnb8=>AD (v:=(Value.func (.func 259) #[] #[(pP b7 0),(pP b8 0)])) (DL (vs:=[]) (us:=[(pP b7 0),(pP b8 0)]) O O) O (DH call258 (λw hw=>Nb A.2.2 A.1 B ⟨b7⟩ ⟨b8⟩ ⟨b2⟩ Z hB w (Uo (S:=λ_=>False) (x:=(⟨b7⟩:BX (AZ A.2.2))) hw 0 O hnb7) (Uo (S:=λ_=>False) (x:=(⟨b8⟩:BX (AZ A.1))) hw 1 O hnb8) (Uo (S:=λ_=>False) (x:=(⟨b2⟩:BX (H8 B))) hw 6 O hnb2)) O (AD (BK (c:=(!(GM A.2.2 A.1 B))) O O) O ?_)))))))))
   refine oNl' (zB (sL [2,3,4,8,7,6,22] O) (zA ?_))
   refine zL O (λhc1=>?_) (λhc1=>?_)
   ·simp only [jK] at hc1
    have hr:Eb A B=true:=by unfold Eb;rw [k0,k1,(by simpa using hc1:GM A.2.2 A.1 B=false)];simp
    exact q4 (asg' O (oNl' (zA (zF (zS (zK (zK (zS (zK (ret_one O (rd_tmp (v:=(qa true)) O) (λw hw=>⟨by rw [hr],hw.out⟩)))))))))))
   ·simp only [jK] at hc1
    have k2:GM A.2.2 A.1 B=true:=by simpa using hc1
    have hr:Eb A B=false:=by unfold Eb;rw [k0,k1,k2];rfl
    refine zC (zG (zA (zH (AD (AT (c:=(3:Int)) O O jY) O (AL O (oNl' (zB (sL [2,3,4,8,7,6] O) (zk (zf (q4 (AD (Aa (c:=false) O O jY) O ?_)))))))))))
    refine oNl' (q1 (zT O (zU (zO (zO (zP (q2 (asg' O (oNl' (zB (sL [2,3,4,8,7,6] O) (zA ?_)))))))))))
    exact zF (ret_one O (rd_tmp (v:=(qa false)) O) (λw hw=>⟨by rw [hr],hw.out⟩))
end
end Go.Proofs.YtpolhpjiahbidaaGreatDoor
