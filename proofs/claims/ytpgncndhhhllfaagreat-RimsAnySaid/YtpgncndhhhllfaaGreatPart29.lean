import Derived.WideLaws
import Derived.Test.YtpgncndhhhllfaaGreatPart03
import Derived.Test.YtpgncndhhhllfaaGreatPart20
import Derived.Test.YtpgncndhhhllfaaGreatPart23
import Derived.Test.YtpgncndhhhllfaaGreatPart28
namespace Go.Proofs.YtpgncndhhhllfaaGreat
open Go Go.RowKit Go.Proofs.Tryz
set_option linter.unusedVariables false
set_option linter.unusedSimpArgs false
section
set_option maxRecDepth 100000
theorem Zr:ElemT prog 74 84 3 24:=⟨underlying74,Co (by kernel_rfl)⟩
theorem Tv (p:Option Addr) (n cp:Nat) (h:n<=cp) (w:World)  :Calls prog 54 #[(Value.slice p n cp)] w (Ak w (Value.slice p n n)):=by
 refine An (args:=[(Value.slice p n cp)]) func54 O O (AV O) (AE.subF (sL [0] O) (q4 (AI O (AC.nil (q2 (AM O (AM O (AK (v:=(vN n)) (AF O underlying74) O (AM O (AK (v:=(vN n)) (AF O underlying74) O (AK (v:=(Value.slice p n n)) (DB (m:=n) O O O underlying74 sizeOf84 Z) O ?_)))))))))))
 exact AI O (AC.nil (OkQ.subF (sL [2] O) (OkQ.then_ (AE.ret (AS O (AZ (v:=(Value.slice p n n)) O) (λw hw=>⟨rfl,hw.out⟩))))))
theorem Fg (x0 x1:Nat):Instr.fill (λi=>some (i*1,1)) (Bh ((0,0):P2)).toArray [(0,vN x0),(1,vN x1)]=some (Bh (x0,x1)).toArray:=by kernel_rfl
theorem F4 (x0:Tq3):Instr.fill (λi=>some (i*3,3)) ((Array.range (1*3)).map ((Value.agg (Am ((0,0,0):Tq3)).toArray).cells[·%(Value.agg (Am ((0,0,0):Tq3)).toArray).cells.size]!)) [(0,.agg (Am x0).toArray)]=some (Am x0).toArray:=by kernel_rfl
set_option maxHeartbeats 1000000 in
theorem J6 {N:Nat} {ts ss:List T3} (x:RM N ts ss) (sx:SX ts true) (hnb:A_ N ts=true) (hp:N<=1000000) (htl:ts.length<=1000000) (w:World) {S:Nat->Prop} (hx:Ro S w x) (hsx:Ro S w sx):Calls prog 36 #[(aG (BN x)),(Value.map (some sx.b))] w (Al (CX (rowsL Am (Ab ts)) (Ab ts).length) S w):=by
 have hrl:=Hj (ts:=ts)
 have lx:=CV (W:=w) hx
 have lsx:=CV (W:=w) hsx
 refine Ag (args:=[(aG (BN x)),(Value.map (some sx.b))]) (L:=[AJ x.a.p (x.cs),AJ x.b.p (rowsL Am ts),AJ x.c.p (x.ds),He sx.b D5 vN sx.kvs]) func36 O O (AV O) (C4 hx (C4 hsx Ao)) (AE.subF (sL [0,1] O) (q4 (B0 (cs:=BN x) O λb1=>AI O (q3 (sL [1,2,4] O) (AI O (AC.nilRow 84 3 (AC.nil (q1 (q4 (AK (v:=(pP b1 0)) (AB O underlying31 O sizeOf27 O) O ?_))))))))))
 refine BL 1 (Value.slice x.a.p N x.a.c) WJ O (AK (v:=(pP b1 1)) (AB O underlying31 O sizeOf28 O) O (BL 1 (Value.slice x.b.p ts.length x.b.c) Bp O (AC.callL (S:=S) (V:=cE) (LW:=aF (T:=70) (z:=3) (cs:=rowsL Am (Au ts)) (n:=(Au ts).length)) (args:=[(Value.slice x.a.p N x.a.c),(Value.slice x.b.p ts.length x.b.c)]) call53 (λw hw=>X7 ts x.b x.a.p N x.a.c hnb Z Z w (Ya (Bc hw 2 O lx))) O λrm hrm=>AK (v:=(vN ((Au ts).length))) (AF O underlying29) O (AM O (AC.nil (OkQ.subF (sL [1,4,5,14,15,16] O) (OkQ.then_ (AE.block ?_))))))))
 refine AE.lp4 (tg λ(i:Nat) (p1:Option Addr) (c1:Nat) (out:List T3)=>i<=(Au ts).length/\OwnOk p1 out.length c1/\out=Mr sx.kvs (Au ts) i) (tg λ(i:Nat) (p1:Option Addr) (c1:Nat) (out:List T3)=>[(1,(Value.map (some sx.b))),(4,(Value.slice none 0 0)),(14,(Value.slice rm.p ((Au ts).length) ((Au ts).length))),(15,(vN ((Au ts).length))),(16,(vN i)),(5,(Value.slice p1 out.length c1))]) (tg λ(i:Nat) (p1:Option Addr) (c1:Nat) (out:List T3)=>[rowW rm.p 70 3 ((Au ts).length) rm.c (rowsL Am (Au ts)),rowW p1 84 3 out.length c1 (rowsL Am out),Ah b1 31 (BN x),AJ x.a.p (x.cs),AJ x.b.p (rowsL Am ts),AJ x.c.p (x.ds),He sx.b D5 vN sx.kvs]) (tg λ(i:Nat) (p1:Option Addr) (c1:Nat) (out:List T3)=>(Au ts).length-i) 0 none 0 ([]:List T3) (⟨Nat.zero_le _,OwnOk.none,rfl⟩) (sF O) sr (λi p1 c1 out hJ=>?_)
 obtain ⟨hi,ho,hou⟩:=hJ
 have hol:=TJ (kvs:=sx.kvs) (rs:=Au ts) i
 rw [<-hou] at hol
 refine q4 (AK (Ad (c:=(decide (i<((Au ts).length)))) O O (B7 (a:=i) (b:=(Au ts).length))) O (AC.nil (q1 ?_)))
 refine AE.cond O (λhc0=>?_) (λhc0=>?_)
 ·replace hc0:=of_decide_eq_true hc0
  obtain ⟨sd,hsd⟩:∃q,q=(Au ts).getD i (0,0,0):=⟨_,rfl⟩
  obtain ⟨hea,heb⟩:=Vi hnb Z (s:=sd) (by rw [hsd,List.getD,List.getElem?_eq_getElem hc0];exact List.getElem_mem hc0)
  refine AE.skip (q1 (AE.block (q4 (AK (v:=(pP (pB rm.p) (pO rm.p+i*3))) (AH (j:=i) O O rm.ok.clip underlying29 sizeOf70 O Z) O (AK (v:=(aG (Am ((Au ts).getD i ((0,0,0):Tq3))))) (H5 (vs:=Am ((Au ts).getD i ((0,0,0):Tq3))) (i:=0) O O rm.ok (A6 Af _) (Ar.ne rm.ok.clip Z) aT (A8 Af _ _ _ Z) (Af _)) O (AC.retell (k:=19) (u:=(aG (Am sd))) O (by rw [hsd]) (al bY O λb2=>BP O sizeOf70 O (q3 (sL [1,4,14,15,16,5,7] O) (AM O (AK (v:=(pP b2 0)) (AB O underlying70 O sizeOf3 O) O ?_))))))))))
  refine BL 0 (vN sd.1) BR O (AK (v:=(pP b2 1)) (AB O underlying70 O sizeOf3 O) O (BL 0 (vN sd.2.1) BR O (AK (v:=(aG (Bh (sd.1,sd.2.1)))) (BY (zs:=Bh ((0,0):P2)) (vs:=Bh (sd.1,sd.2.1)) (pv:=[(0,(vN sd.1)),(1,(vN sd.2.1))]) zeroValue112 underlying112 sizeOf3 O (Fg sd.1 sd.2.1)) O (AK (v:=(Value.tuple #[(vN ((Ac sx.kvs (sd.1,sd.2.1)).getD 0)),(Value.bool ((Ac sx.kvs (sd.1,sd.2.1)).isSome))])) (FH E9 7 (eV:=vN) (kvs:=sx.kvs) (x:=(sd.1,sd.2.1)) (z0:=0) (co:=true) O O underlying71 zeroValue3 O (sx.ok) (⟨by show (_:Nat)<_;omega,by show (_:Nat)<_;omega⟩)) O (AM O (AK (AX (v:=(vN ((Ac sx.kvs (sd.1,sd.2.1)).getD 0))) O O) O (AK (AX (v:=(Value.bool ((Ac sx.kvs (sd.1,sd.2.1)).isSome))) O O) O (AI O (AI O (q3 (sL [1,4,14,15,16,5,7,8,9] O) (AM O ?_)))))))))))
  refine AC.nil (OkQ.subF (sL [1,4,14,15,16,5,7,8,30] O) (OkQ.then_ ?_))
  refine AE.cond O (λhc1=>?_) (λhc1=>?_)
  ·skip
   refine AE.region (AM O (AK (v:=(pP b2 0)) (AB O underlying70 O sizeOf3 O) O (BL 0 (vN sd.1) BR O (AK (v:=(pP b2 1)) (AB O underlying70 O sizeOf3 O) O (BL 0 (vN sd.2.1) BR O (AM O (AK (v:=(aG ([(vN sd.1),(vN sd.2.1),(vN ((Ac sx.kvs (sd.1,sd.2.1)).getD 0))]))) (Aa (zs:=Am ((0,0,0):Tq3)) (vs:=[(vN sd.1),(vN sd.2.1),(vN ((Ac sx.kvs (sd.1,sd.2.1)).getD 0))]) (pv:=[(0,(vN sd.1)),(1,(vN sd.2.1)),(2,(vN ((Ac sx.kvs (sd.1,sd.2.1)).getD 0)))]) (places:=[(0,1),(1,1),(2,1)]) zeroValue84 underlying84 (λw=>by simp [sizeOf3]) O O) O (AC.openV (V:=λb3=>(Value.slice (some ⟨b3,0,none⟩) 1 1)) (T:=84) (cs:=Am ((sd.1,sd.2.1,(Ac sx.kvs (sd.1,sd.2.1)).getD 0):T3)) (AT O) (Ap (z:=.agg (Am ((0,0,0):Tq3)).toArray) (cs:=Am ((sd.1,sd.2.1,(Ac sx.kvs (sd.1,sd.2.1)).getD 0):T3)) (pv:=[(0,(aG ([(vN sd.1),(vN sd.2.1),(vN ((Ac sx.kvs (sd.1,sd.2.1)).getD 0))])))]) underlying74 sizeOf84 zeroValue84 (by decide) (by decide) O (F4 ((sd.1,sd.2.1,(Ac sx.kvs (sd.1,sd.2.1)).getD 0):T3))) O (AV O) λb3=>AC.appendAt 3 (j:=0) (cs2:=rowsL Am (out++[((sd.1,sd.2.1,(Ac sx.kvs (sd.1,sd.2.1)).getD 0):T3)])) Zr O ho (A6 Af _) O O O O O (by decide) (Fl Z) Z (by rw [Bk];rfl) O λp_1 c_1 ho_1 hne_1=>AI O (AC.nil ?_)))))))))
   refine OkQ.subF (sL [1,4,14,15,16,5,7] O) (OkQ.in_normal (OkQ.then_ (AE.region (AK (AY (c:=((i+1:Nat):Int)) O O (AU (a:=i) (b:=1) Z)) O (AM O (AC.nil (OkQ.subF (sL [1,4,14,15,16,5,7] O) ?_)))))))
   rw [show out.length+1=(out++[((sd.1,sd.2.1,(Ac sx.kvs (sd.1,sd.2.1)).getD 0):T3)]).length by simp]
   exact OkQ.round4 (i+1) p_1 c_1 (out++[((sd.1,sd.2.1,(Ac sx.kvs (sd.1,sd.2.1)).getD 0):T3)]) (⟨Z,(by simpa using ho_1),by rw [hou,LR hc0,<-hsd];first|rw [GD hc1]|rw [HV hc1]⟩) Z (sF O) (sl (sl sr))
  ·skip
   refine Cu [(0,true),(1,true),(2,true),(3,true),(4,true),(5,true),(6,true),(7,true),(8,true),(9,true),(10,true),(11,true),(12,true),(13,false),(14,false),(15,true)] (sk (sk (sl sr))) (BU O (Av (v:=(pP b2 1)) O (AB O underlying70 O sizeOf3 O) (Bx 0 (vN sd.2.1) BR O (Av (v:=(pP b2 0)) O (AB O underlying70 O sizeOf3 O) (Bx 0 (vN sd.1) BR O (BU O (Av (v:=(pP b2 1)) O (AB O underlying70 O sizeOf3 O) (Bx 0 (vN sd.2.1) BR O (Av (v:=(pP b2 0)) O (AB O underlying70 O sizeOf3 O) (Bx 0 (vN sd.1) BR O (Av (v:=(aG (Bh (sd.2.1,sd.1)))) O (BY (zs:=Bh ((0,0):P2)) (vs:=Bh (sd.2.1,sd.1)) (pv:=[(0,(vN sd.2.1)),(1,(vN sd.1))]) zeroValue112 underlying112 sizeOf3 O (Fg sd.2.1 sd.1)) ?_)))))))))))
   refine Av (v:=(vN ((Ac sx.kvs (sd.2.1,sd.1)).getD 0))) O (FH E9 6 (eV:=vN) (kvs:=sx.kvs) (x:=(sd.2.1,sd.1)) (z0:=0) (co:=false) O O underlying71 zeroValue3 O (sx.ok) (⟨by show (_:Nat)<_;omega,by show (_:Nat)<_;omega⟩)) (Av (v:=(aG ([(vN sd.2.1),(vN sd.1),(vN ((Ac sx.kvs (sd.2.1,sd.1)).getD 0))]))) O (Aa (zs:=Am ((0,0,0):Tq3)) (vs:=[(vN sd.2.1),(vN sd.1),(vN ((Ac sx.kvs (sd.2.1,sd.1)).getD 0))]) (pv:=[(0,(vN sd.2.1)),(1,(vN sd.1)),(2,(vN ((Ac sx.kvs (sd.2.1,sd.1)).getD 0)))]) (places:=[(0,1),(1,1),(2,1)]) zeroValue84 underlying84 (λw=>by simp [sizeOf3]) O O) (OkE.imp O (AC.openV (V:=λb3=>(Value.slice (some ⟨b3,0,none⟩) 1 1)) (T:=84) (cs:=Am ((sd.2.1,sd.1,(Ac sx.kvs (sd.2.1,sd.1)).getD 0):T3)) (AT O) (Ap (z:=.agg (Am ((0,0,0):Tq3)).toArray) (cs:=Am ((sd.2.1,sd.1,(Ac sx.kvs (sd.2.1,sd.1)).getD 0):T3)) (pv:=[(0,(aG ([(vN sd.2.1),(vN sd.1),(vN ((Ac sx.kvs (sd.2.1,sd.1)).getD 0))])))]) underlying74 sizeOf84 zeroValue84 (by decide) (by decide) O (F4 ((sd.2.1,sd.1,(Ac sx.kvs (sd.2.1,sd.1)).getD 0):T3))) O (AV O) λb3=>OkE.back (sl (sk (sk (sl sr)))) (OkE.imp O (AC.appendAt 3 (j:=0) (cs2:=rowsL Am (out++[((sd.2.1,sd.1,(Ac sx.kvs (sd.2.1,sd.1)).getD 0):T3)])) Zr O ho (A6 Af _) O O O O O (by decide) (Fl Z) Z (by rw [Bk];rfl) O λp_2 c_2 ho_2 hne_2=>OkE.back (sl (sk (sk (sl sr)))) (pS' O (OkE.nil (OkQ.subF (sL [1,4,14,15,16,5,7,8] O) (OkQ.in_normal ?_)))))))))
   refine OkQ.then_ (AE.region (AK (AY (c:=((i+1:Nat):Int)) O O (AU (a:=i) (b:=1) Z)) O (AM O (AC.nil (OkQ.subF (sL [1,4,14,15,16,5,7,8] O) ?_)))))
   rw [show out.length+1=(out++[((sd.2.1,sd.1,(Ac sx.kvs (sd.2.1,sd.1)).getD 0):T3)]).length by simp]
   exact OkQ.round4 (i+1) p_2 c_2 (out++[((sd.2.1,sd.1,(Ac sx.kvs (sd.2.1,sd.1)).getD 0):T3)]) (⟨Z,(by simpa using ho_2),by rw [hou,LR hc0,<-hsd];first|rw [GD hc1]|rw [HV hc1]⟩) Z (sF O) (sl (sl sr))
 ·replace hc0:=of_decide_eq_false hc0
  exact AE.exit (OkQ.then_exit (OkQ.round4_exit (OkQ.in_exit (q2 (AM O (ck' call54 (Tv p1 out.length c1 ho.row.le) O (AI O (AC.nil (OkQ.subF (sL [1,4,14,15,16,5] O) (OkQ.then_ (AE.ret (AS O (AZ (v:=(Value.slice p1 out.length out.length)) O) (λw hw=>(by rw [show Ab ts=out from by rw [hou,show i=(Au ts).length by omega];exact (Sl (sx.fin O)).symm];exact UQ hw 1 O ho (A6 Af _) O))))))))))))))
theorem Lh {N:Nat} {ts ss:List T3} (x:RM N ts ss) (sx:SX ts true) (hnb:A_ N ts=true) (hp:N<=1000000) (htl:ts.length<=1000000) (w:World) {S:Nat->Prop} (hx:Ro S w x) (hs:Ro S w sx):Calls prog 36 #[(aG (BN x)),(Value.map (some sx.b))] w (Al (RX (rowsL Am (Ab ts)) (Ab ts).length) S w):=(J6 x sx hnb hp htl w hx hs).mono λe w1 h=>h.ofCX
theorem KH {N:Nat} {ts ss:List T3} (x:RM N ts ss) (hor:(A_ N ts&&BV ts (3*ts.length))=true) (hp:N<=1000000) (htl:ts.length<=1000000) (w:World) {S:Nat->Prop} (hx:Ro S w x):Calls prog 16 #[(aG (BN x))] w (Al (CX (rowsL Am (Ab ts)) (Ab ts).length) S w):=by
 have hnb:A_ N ts=true:=(Bool.and_eq_true _ _▸hor).1
 have lx:=CV (W:=w) hx
 refine Ag (args:=[(aG (BN x))]) (L:=[AJ x.a.p (x.cs),AJ x.b.p (rowsL Am ts),AJ x.c.p (x.ds)]) func16 O O (AV O) (C4 hx Ao) (AE.subF (sL [0] O) (q4 (B0 (cs:=BN x) O λb1=>AI O (q3 (sL [1,2] O) (BC 0 CF O (AC.callR (S:=S) (α:=SX ts true) (args:=[(aG (BN x))]) call15 (λw hw=>(by have h9:=Dm x hp htl w (Bc hw 1 O lx);rw [hor] at h9;exact h9)) O O O λsx lsx=>AM O (AK (AX (v:=(Value.map (some sx.b))) O O) O (AK (AX (v:=(Value.bool true)) O O) O (AI O ?_)))))))))
 refine AI O (q6 (sL [1,2,3,4] O) (q4 (AM O (AK (BF (c:=false) O O) O (AC.nil (OkQ.subF (sL [1,2,3,11] O) (OkQ.then_ (AE.cond_false O (AE.skip (q2 (BC 1 CF O ?_)))))))))))
 exact AM O (AC.callR (S:=S) (α:=CX (rowsL Am (Ab ts)) (Ab ts).length) (args:=[(aG (BN x)),(Value.map (some sx.b))]) call36 (λw hw=>J6 x sx hnb hp htl w (Bc hw 2 O lx) (Bc hw 0 O lsx)) O O O λwy lwy=>AI O (AC.nil (OkQ.subF (sL [1,2] O) (OkQ.then_ (AE.ret (AS O (AZ (v:=(Value.slice wy.p ((Ab ts).length) ((Ab ts).length))) O) (λw hw=>(Gd hw (Bc hw 0 O lwy) O))))))))
theorem RE {N:Nat} {ts ss:List T3} (x:RM N ts ss) (hor:(A_ N ts&&BV ts (3*ts.length))=true) (hp:N<=1000000) (htl:ts.length<=1000000) (w:World) {S:Nat->Prop} (hx:Ro S w x):Calls prog 16 #[(aG (BN x))] w (Al (RX (rowsL Am (Ab ts)) (Ab ts).length) S w):=(KH x hor hp htl w hx).mono λe w1 h=>h.ofCX
theorem Vc {ps:List Pt} {ts ss:List T3} (x:MX ps ts ss) (hor:(A_ ps.length ts&&BV ts (3*ts.length))=true) (hp:ps.length<=1000000) (htl:ts.length<=1000000) (w:World) {S:Nat->Prop} (hx:Ro S w x):Calls prog 16 #[(aG (IM x))] w (Al (RX (rowsL Am (Ab ts)) (Ab ts).length) S w):=RE x.rm hor hp htl w (VW hx)
theorem Rb {N:Nat} {ts ss:List T3} (x:RM N ts ss) (hor:(A_ N ts&&BV ts (3*ts.length))=false) (hp:N<=1000000) (htl:ts.length<=1000000) (w:World) {S:Nat->Prop} (hx:Ro S w x):Calls prog 16 #[(aG (BN x))] w (Ak w (Value.slice none 0 0)):=by
 have lx:=CV (W:=w) hx
 refine Ag (args:=[(aG (BN x))]) (L:=[AJ x.a.p (x.cs),AJ x.b.p (rowsL Am ts),AJ x.c.p (x.ds)]) func16 O O (AV O) (C4 hx Ao) (AE.subF (sL [0] O) (q4 (B0 (cs:=BN x) O λb1=>AI O (q3 (sL [1,2] O) (BC 0 CF O (AC.callR (S:=S) (α:=SX ts false) (args:=[(aG (BN x))]) call15 (λw hw=>(by have h9:=Dm x hp htl w (Bc hw 1 O lx);rw [hor] at h9;exact h9)) O O O λsx lsx=>AM O (AK (AX (v:=(Value.map (some sx.b))) O O) O (AK (AX (v:=(Value.bool false)) O O) O (AI O ?_)))))))))
 refine AI O (q6 (sL [1,2,3,4] O) (q4 (AM O (AK (BF (c:=true) O O) O (AC.nil (OkQ.subF (sL [1,2,3,11] O) (OkQ.then_ (AE.cond_true O (q4 (AI O (AC.nil ?_)))))))))))
 exact OkQ.subF (sL [1,2,3] O) (OkQ.then_ (AE.ret (OkQ.then_ret (AS O (AZ (v:=(Value.slice none 0 0)) O) (λw hw=>⟨rfl,hw.out⟩)))))
end
section
set_option maxRecDepth 100000
theorem Om {N:Nat} {ts ss:List T3} (x:RM N ts ss) (hor:(A_ N ts&&BV ts (3*ts.length))=false) (hp:N<=1000000) (htl:ts.length<=1000000) (w:World) {S:Nat->Prop} (hx:Ro S w x):Calls prog 20 #[(aG (BN x))] w (Ak w (Value.slice none 0 0)):=by
 have lx:=CV (W:=w) hx
 refine Ag (args:=[(aG (BN x))]) (L:=[AJ x.a.p (x.cs),AJ x.b.p (rowsL Am ts),AJ x.c.p (x.ds)]) func20 O O (AV O) (C4 hx Ao) (AE.subF (sL [0] O) (q4 (B0 (cs:=BN x) O λb1=>AI O (q3 (sL [1,2] O) (BC 0 CF O (AC.callR (S:=S) (α:=SX ts false) (args:=[(aG (BN x))]) call15 (λw hw=>(by have h9:=Dm x hp htl w (Bc hw 1 O lx);rw [hor] at h9;exact h9)) O O O λsx lsx=>AM O (AK (AX (v:=(Value.map (some sx.b))) O O) O (AK (AX (v:=(Value.bool false)) O O) O (AI O ?_)))))))))
 refine AI O (q6 (sL [1,2,3,4] O) (q4 (AM O (AK (BF (c:=true) O O) O (AC.nil (OkQ.subF (sL [1,2,3,18] O) (OkQ.then_ (AE.cond_true O (q4 (AI O (AC.nil ?_)))))))))))
 exact OkQ.subF (sL [1,2,3] O) (OkQ.then_ (AE.ret (OkQ.then_ret (AS O (AZ (v:=(Value.slice none 0 0)) O) (λw hw=>⟨rfl,hw.out⟩)))))
end
section
section
variable {P:Program} {n:Nat} {F:List (Nat×Value)} {w0:BE} {L:List As} {x y:Operand} {d:Option Tmp} {t:TypeId} {p:String} {af:Array Edge} {g:Option (Nat×Bool)}
theorem CD {cs:List Value} {s e nn:Nat} {ki:IntKind} {j:Nat} {v:Value} (hx:evF F x=some (aG cs)) (hy:evF F y=some (.int ki ((j:Nat):Int))) (hu:P.underlying s=some (.array nn e)) (hsz:∀w,(sizeOf e).run P w=.ok 1 w) (hg:∀w,(isAgg e).run P w=.ok false w) (hj:j<nn) (hv:cs[j]?=some v) :
    Ex P n F w0 L ⟨d,.index s x y,t,p,af,g⟩ v:=λA w ha _=>by
  simp [execOp,ha.ev hx,ha.ev hy,Instr.index,asIntOf,run_underlying hu,hsz,hg,hj,hv,part]
end
def B5 (ts:List T3):Nat->List (Nat×Nat)
  | 0=>[]
  | s+1=>A9 (B5 ts s) (Bl (ts.getD (s/3) (0,0,0)) (s%3)) ((Ac (B5 ts s) (Bl (ts.getD (s/3) (0,0,0)) (s%3))).getD 0+1)
theorem H8 {ts:List T3} {t r:Nat} (hr:r<3):A9 (B5 ts (3*t+r)) (Bl (ts.getD t (0,0,0)) r) ((Ac (B5 ts (3*t+r)) (Bl (ts.getD t (0,0,0)) r)).getD 0+1)=B5 ts (3*t+r+1):=by
  show _=A9 (B5 ts (3*t+r)) (Bl (ts.getD ((3*t+r)/3) (0,0,0)) ((3*t+r)%3)) ((Ac (B5 ts (3*t+r)) (Bl (ts.getD ((3*t+r)/3) (0,0,0)) ((3*t+r)%3))).getD 0+1)
  rw [show (3*t+r)/3=t by omega,show (3*t+r)%3=r by omega]
theorem Ht {ts:List T3}:∀s k,(Ac (B5 ts s) k).getD 0<=s
  | 0,k=>Nat.zero_le _
  | s+1,k=>by
    show (Ac (A9 _ _ _) k).getD 0<=_
    rw [CP];split
    · have:=Ht (ts:=ts) s (Bl (ts.getD (s/3) (0,0,0)) (s%3));show _+1<=_;omega
    · exact Nat.le_trans (Ht s k) Z
theorem Rs {kvs:List (Nat×Nat)} {x y:Nat}:(A9 kvs x y).length<=kvs.length+1:=by
  induction kvs with
  | nil=>exact Nat.le_refl _
  | cons p r ih=>obtain ⟨k,v⟩:=p;unfold A9;split<;>simp only [List.length_cons]<;>omega
theorem GC {ts:List T3}:∀s,(B5 ts s).length<=s
  | 0=>Nat.le_refl _
  | s+1=>Nat.le_trans Rs (by have:=GC (ts:=ts) s;omega)
theorem Ej {ts:List T3} {N:Nat} (hn:A_ N ts=true) (hN:N<=4611686018427387904):∀s,s<=3*ts.length->GM TV (B5 ts s)
  | 0,_=>⟨λp hp=>(by cases hp),List.Pairwise.nil⟩
  | s+1,h=>(Ej hn hN s Z).put (by
    obtain ⟨g1,g2,g3⟩:=Cn (CL hn (show s/3<ts.length by omega))
    show Bl _ _<_
    unfold Bl;split
    · omega
    · split<;>omega)
def EU (ts:List T3):Int:=((B5 ts (3*ts.length)).length:Int)-(Bv ts).length+ts.length
end
section
set_option maxRecDepth 100000
theorem EK:Ir prog 3 vN TV:=YJ underlying3
set_option maxHeartbeats 1000000 in
theorem FG {N:Nat} {ts ss:List T3} (x:RM N ts ss) (hnb:A_ N ts=true) (hp:N<=1000000) (htl:ts.length<=1000000) (w:World) {S:Nat->Prop} (hx:Ro S w x):Calls prog 25 #[(aG (BN x))] w (Ak w (vI (EU ts))):=by
 have hel0:=H9 ts
 have hcl0:=GC (ts:=ts) (3*ts.length)
 have lx:=CV (W:=w) hx
 refine Ag (args:=[(aG (BN x))]) (L:=[AJ x.a.p (x.cs),AJ x.b.p (rowsL Am ts),AJ x.c.p (x.ds)]) func25 O O (AV O) (C4 hx Ao) (AE.subF (sL [0] O) (q4 (B0 (cs:=BN x) O λb1=>AI O (q6 (sL [1,2] O) (q4 (BC 0 CF O (Cc (args:=[(aG (BN x))]) (v:=(Value.bool true)) call35 (λw hw=>(by have h9:=E_ x Z w (Bc hw 1 O lx);rw [hnb] at h9;exact h9)) O (AK (BF (c:=false) O O) O (AC.nil (OkQ.subF (sL [1,2,10] O) ?_))))))))))
 refine OkQ.then_ (AE.cond_false O (AE.skip (q2 (AC.makeMap vN vN (AT O) O λb2=>AI O (q6 (sL [1,2,3] O) (q4 (AK (v:=(pP b1 1)) (AB O underlying31 O sizeOf28 O) O (BL 1 (Value.slice x.b.p ts.length x.b.c) Bp O (AK (v:=(vN ts.length)) (AF O underlying28) O (AM O ?_))))))))))
 refine AC.nil (OkQ.subF (sL [1,2,3,13,14,15] O) (OkQ.then_ (AE.block ?_)))
 refine AE.lp1 (tg λ(t:Nat)=>t<=ts.length) (tg λ(t:Nat)=>[(1,(pP b1 0)),(2,(vI 0)),(3,(Value.map (some b2))),(13,(Value.slice x.b.p ts.length x.b.c)),(14,(vN ts.length)),(15,(vN t))]) (tg λ(t:Nat)=>[Bm b2 vN vN (B5 ts (3*t+0)),Ah b1 31 (BN x),AJ x.a.p (x.cs),AJ x.b.p (rowsL Am ts),AJ x.c.p (x.ds)]) (tg λ(t:Nat)=>ts.length-t) 0 (Nat.zero_le _) (sF O) sr (λt hJ=>?_)
 have ht:=hJ
 refine q4 (AK (Ad (c:=(decide (t<ts.length))) O O (B7 (a:=t) (b:=ts.length))) O (AC.nil (q1 ?_)))
 refine AE.cond O (λhc1=>?_) (λhc1=>?_)
 ·replace hc1:=of_decide_eq_true hc1
  obtain ⟨T,hT⟩:∃q,q=ts.getD t (0,0,0):=⟨_,rfl⟩
  obtain ⟨g1,g2,g3⟩:=Cn (CL hnb hc1)
  rw [<-hT] at g1 g2 g3
  refine AE.skip (q1 (AE.block (q4 (AK (v:=(pP (pB x.b.p) (pO x.b.p+t*3))) (AH (j:=t) O O x.b.ok underlying28 sizeOf68 O Z) O (AK (v:=(aG (Am (ts.getD t ((0,0,0):Tq3))))) (Ai (vs:=Am (ts.getD t ((0,0,0):Tq3))) (i:=3) O O (Ar.ne x.b.ok Z) DL (A8 Af _ _ _ Z) (Af _)) O (AC.retell (k:=18) (u:=(aG (Am T))) O (by rw [hT]) (al Ng O λb3=>BP O sizeOf68 O (q3 (sL [1,2,3,13,14,15,5] O) (BC 0 DL O (AM O ?_))))))))))
  refine AC.nil (OkQ.then_ (AE.block (AE.unroll 4 (FF.step (q4 (AK (Ad (c:=true) O O (by decide)) O (AC.nil (q1 (AE.cond_true O (AE.skip (q1 ?_)))))))))))
  refine AE.block (q4 (AK (v:=(vN T.1)) (CD (j:=0) O O underlying68 sizeOf3 isAgg3 (by decide) O) O (AI O (AC.nil (OkQ.subF (sL [1,2,3,13,14,15,5,19,20,7] O) (OkQ.then_ (AE.region (AM O (AM O (AK (v:=(vN ((Ac (B5 ts (3*t+0)) T.1).getD 0))) (Bj EK 1 (eV:=vN) (kvs:=B5 ts (3*t+0)) (x:=T.1) (z0:=0) (co:=false) O O underlying124 zeroValue3 O (Ej hnb Z _ Z) (by show (_:Nat)<_;omega)) O ?_))))))))))
  have hle0:=Ht (ts:=ts) (3*t+0) T.1
  refine AK (AY (c:=((((Ac (B5 ts (3*t+0)) T.1).getD 0)+1:Nat):Int)) O O (AU (a:=(Ac (B5 ts (3*t+0)) T.1).getD 0) (b:=1) Z)) O (AC.mapUpdate EK 1 (kvs:=B5 ts (3*t+0)) (x:=T.1) (y:=((Ac (B5 ts (3*t+0)) T.1).getD 0)+1) (AT O) O O O underlying124 O (Ej hnb Z _ Z) (by show (_:Nat)<_;omega) ?_)
  rw [show A9 (B5 ts (3*t+0)) T.1 (((Ac (B5 ts (3*t+0)) T.1).getD 0)+1)=B5 ts (3*t+1) from by rw [hT];exact H8 Z]
  refine AC.nil (OkQ.subF (sL [1,2,3,13,14,15,5,19,20] O) (OkQ.in_normal (OkQ.then_ (AE.region (AK (AY (c:=(1:Int)) O O (by decide)) O (AM O (AC.nil (OkQ.subF (sL [1,2,3,13,14,15,5,19,20] O) (OkQ.again (FF.step (q4 ?_)))))))))))
  refine AK (Ad (c:=true) O O (by decide)) O (AC.nil (q1 (AE.cond_true O (AE.skip (q1 (AE.block (q4 (AK (v:=(vN T.2.1)) (CD (j:=1) O O underlying68 sizeOf3 isAgg3 (by decide) O) O (AI O (AC.nil (OkQ.subF (sL [1,2,3,13,14,15,5,19,20,7] O) ?_)))))))))))
  refine OkQ.then_ (AE.region (AM O (AM O (AK (v:=(vN ((Ac (B5 ts (3*t+1)) T.2.1).getD 0))) (Bj EK 1 (eV:=vN) (kvs:=B5 ts (3*t+1)) (x:=T.2.1) (z0:=0) (co:=false) O O underlying124 zeroValue3 O (Ej hnb Z _ Z) (by show (_:Nat)<_;omega)) O ?_))))
  have hle1:=Ht (ts:=ts) (3*t+1) T.2.1
  refine AK (AY (c:=((((Ac (B5 ts (3*t+1)) T.2.1).getD 0)+1:Nat):Int)) O O (AU (a:=(Ac (B5 ts (3*t+1)) T.2.1).getD 0) (b:=1) Z)) O (AC.mapUpdate EK 1 (kvs:=B5 ts (3*t+1)) (x:=T.2.1) (y:=((Ac (B5 ts (3*t+1)) T.2.1).getD 0)+1) (AT O) O O O underlying124 O (Ej hnb Z _ Z) (by show (_:Nat)<_;omega) ?_)
  rw [show A9 (B5 ts (3*t+1)) T.2.1 (((Ac (B5 ts (3*t+1)) T.2.1).getD 0)+1)=B5 ts (3*t+2) from by rw [hT];exact H8 Z]
  refine AC.nil (OkQ.subF (sL [1,2,3,13,14,15,5,19,20] O) (OkQ.in_normal (OkQ.then_ (AE.region (AK (AY (c:=(2:Int)) O O (by decide)) O (AM O (AC.nil (OkQ.subF (sL [1,2,3,13,14,15,5,19,20] O) (OkQ.again (FF.step (q4 ?_)))))))))))
  refine AK (Ad (c:=true) O O (by decide)) O (AC.nil (q1 (AE.cond_true O (AE.skip (q1 (AE.block (q4 (AK (v:=(vN T.2.2)) (CD (j:=2) O O underlying68 sizeOf3 isAgg3 (by decide) O) O (AI O (AC.nil (OkQ.subF (sL [1,2,3,13,14,15,5,19,20,7] O) ?_)))))))))))
  refine OkQ.then_ (AE.region (AM O (AM O (AK (v:=(vN ((Ac (B5 ts (3*t+2)) T.2.2).getD 0))) (Bj EK 1 (eV:=vN) (kvs:=B5 ts (3*t+2)) (x:=T.2.2) (z0:=0) (co:=false) O O underlying124 zeroValue3 O (Ej hnb Z _ Z) (by show (_:Nat)<_;omega)) O ?_))))
  have hle2:=Ht (ts:=ts) (3*t+2) T.2.2
  refine AK (AY (c:=((((Ac (B5 ts (3*t+2)) T.2.2).getD 0)+1:Nat):Int)) O O (AU (a:=(Ac (B5 ts (3*t+2)) T.2.2).getD 0) (b:=1) Z)) O (AC.mapUpdate EK 1 (kvs:=B5 ts (3*t+2)) (x:=T.2.2) (y:=((Ac (B5 ts (3*t+2)) T.2.2).getD 0)+1) (AT O) O O O underlying124 O (Ej hnb Z _ Z) (by show (_:Nat)<_;omega) ?_)
  rw [show A9 (B5 ts (3*t+2)) T.2.2 (((Ac (B5 ts (3*t+2)) T.2.2).getD 0)+1)=B5 ts (3*t+3) from by rw [hT];exact H8 Z]
  refine AC.nil (OkQ.subF (sL [1,2,3,13,14,15,5,19,20] O) (OkQ.in_normal (OkQ.then_ (AE.region (AK (AY (c:=(3:Int)) O O (by decide)) O (AM O (AC.nil (OkQ.subF (sL [1,2,3,13,14,15,5,19,20] O) (OkQ.again (FF.step (q4 ?_)))))))))))
  refine AK (Ad (c:=false) O O (by decide)) O (AC.nil (q1 (AE.cond_false O (AE.exit (OkQ.then_exit (OkQ.then_exit (OkQ.in_exit (OkQ.in_normal (OkQ.then_ (AE.region (AK (AY (c:=((t+1:Nat):Int)) O O (AU (a:=t) (b:=1) Z)) O ?_)))))))))))
  refine AM O (AC.nil (OkQ.subF (sL [1,2,3,13,14,15,5,19,20] O) ?_))
  rw [show 3*t+3=3*(t+1)+0 by omega]
  exact OkQ.round1 (t+1) Z Z (sF O) (sl sr)
 ·replace hc1:=of_decide_eq_false hc1
  rw [show B5 ts (3*t+0)=B5 ts (3*ts.length) by rw [show 3*t+0=3*ts.length by omega]]
  refine AE.exit (OkQ.then_exit (OkQ.round1_exit (OkQ.in_exit (q1 (Cu [(0,true),(1,true),(2,true),(6,true),(7,true),(8,true),(3,false),(4,true),(5,true),(9,true),(10,true)] sr (BU O (Av (v:=(vN ((B5 ts (3*ts.length)).length))) O (KK 0 O underlying124 O) (Gx 1 CF O (Av (v:=(pP b1 1)) O (AB O underlying31 O sizeOf28 O) (Bx 1 (Value.slice x.b.p ts.length x.b.c) Bp O (Av (v:=(vN ts.length)) O (AF O underlying28) ?_)))))))))))
  exact OkE.imp O (cX (S:=S) (cs:=rowsL B1 (Bv ts)) (k:=(Bv ts).length) (args:=[(aG (BN x))]) call46 (λw hw=>Oq x Z Z hnb w (Bc hw 2 O lx)) O O O λo lo=>OkE.back (sl sr) (Av (v:=(vN ((Bv ts).length))) O (AF O underlying125) (Av O (BO (c:=((((B5 ts (3*ts.length)).length:Nat):Int)-((Bv ts).length:Nat))) O O (BJ Z Z)) (Av O (AY (c:=(EU ts)) O O (by unfold EU;exact BJ Z Z)) (pS' O (OkE.nil (OkQ.subF (sL [1,2,3,13,14,15] O) (OkQ.then_ (AE.ret (AS O (AZ (v:=(vI (EU ts))) O) (λw hw=>⟨rfl,hw.out⟩)))))))))))
theorem UR {ps:List Pt} {ts ss:List T3} (x:MX ps ts ss) (hnb:A_ ps.length ts=true) (hp:ps.length<=1000000) (htl:ts.length<=1000000) (w:World) {S:Nat->Prop} (hx:Ro S w x):Calls prog 25 #[(aG (IM x))] w (Ak w (vI (EU ts))):=FG x.rm hnb hp htl w (VW hx)
end
end Go.Proofs.YtpgncndhhhllfaaGreat
