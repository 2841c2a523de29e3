import Derived.Test.YtpgncndhhhllfaaGreatPart03
import Derived.Test.YtpgncndhhhllfaaGreatPart16
import Derived.Test.YtpgncndhhhllfaaGreatPart20
import Derived.Test.YtpgncndhhhllfaaGreatPart34
import Derived.Test.YtpgncndhhhllfaaGreatPart38
import Derived.Test.YtpgncndhhhllfaaGreatPart42
import Derived.Test.YtpgncndhhhllfaaGreatPart43
import Derived.Test.YtpgncndhhhllfaaGreatPart44
import Derived.Test.YtpgncndhhhllfaaGreatPart47
namespace Go.Proofs.YtpgncndhhhllfaaGreat
open Go Go.RowKit Go.Proofs.Tryz
set_option linter.unusedVariables false
set_option linter.unusedSimpArgs false
section
set_option maxRecDepth 100000
theorem Nq (l:List Int) (a:CX (zL l) l.length) (b:RX (zL l) l.length) (hl:l.length<=1000000000) (w:World) {S:Nat->Prop} (ha:Ro S w a) (hb:Ro S w b):Calls prog 24 #[(Value.slice a.p l.length l.length),(Value.slice b.p l.length b.c)] w (A9 w (Value.bool true)):=by
 have la:=Dk (W:=w) ha
 have lb:=Dk (W:=w) hb
 refine An (args:=[(Value.slice a.p l.length l.length),(Value.slice b.p l.length b.c)]) (L:=[AK a.p (zL l),AK b.p (zL l)]) func24 O O (Ad O) (E3 ha (E3 hb BA)) (AE.subF (sL [0,1] O) (q4 (AI O (AC.nil (q1 (q4 (AM O (AJ (v:=(vN l.length)) (AF O underlying86) O (AM O (AJ (v:=(vN l.length)) (AF O underlying86) O (AJ (Cv (c:=false) O O (decide_eq_false λh=>h O)) O ?_)))))))))))
 refine AM O (AC.step (v:=(Value.slice a.p l.length l.length)) (AA O) (AU O) O (Ad O) (AC.step (v:=(vN l.length)) (AA O) (Fz O underlying86) O (Ad O) (AC.step (v:=(Value.slice a.p l.length l.length)) (AA O) (AU O) O (Ad O) (AC.step (v:=(vN l.length)) (AA O) (AF O underlying86) O (Ad O) (AC.step (v:=(Value.bool false)) (AA O) (CY (c:=false) O O (decide_eq_false Z)) O (Ad O) (AJ (v:=(Value.bool false)) (AT O O) O (AC.nil (OkQ.subF (sL [0,1,4,17] O) (OkQ.then_ (AE.cond_false O (AE.skip ?_)))))))))))
 refine q1 (q4 (AI O (AC.nil (OkQ.subF (sL [0,1,4,5] O) (OkQ.then_ (AE.block ?_))))))
 refine AE.lp1 (tg λ(i:Nat)=>i<=l.length) (tg λ(i:Nat)=>[(0,(Value.slice a.p l.length l.length)),(1,(Value.slice b.p l.length b.c)),(5,(vN i))]) (tg λ(i:Nat)=>[AK a.p (zL l),AK b.p (zL l)]) (tg λ(i:Nat)=>l.length-i) 0 (Nat.zero_le _) (sF O) sr (λi hJ=>?_)
 have hi:=hJ
 refine AE.seq (q4 (AM O (AM O (AJ (v:=(vN l.length)) (AF O underlying86) O (AJ (Ac (c:=(decide (i<l.length))) O O (CD (a:=i) (b:=l.length))) O (AC.nil (OkQ.subF (sL [0,1,5,21] O) (OkQ.then_ ?_))))))))
 refine AE.cond O (λhc1=>?_) (λhc1=>?_)
 ·replace hc1:=of_decide_eq_true hc1
  refine AE.skip (q1 (AE.block (AE.seq (Ck [(0,true),(1,true),(2,true),(3,true),(4,true),(5,true),(6,true),(7,true),(8,true)] sr (BT O (BT O (Ao (v:=(pP (pB a.p) (pO a.p+i*1))) O (AG (j:=i) O O a.ok underlying86 sizeOf3 O Z) (Ao O (AL (v:=(vI (l.getD i 0))) (i:=0) O O (a.ok.ne Z) BY (HO (l:=l) (j:=i) Z)) (BT O (BT O (Ao (v:=(pP (pB b.p) (pO b.p+i*1))) O (AG (j:=i) O O b.ok underlying86 sizeOf3 O Z) ?_)))))))))))
  refine Ao O (AL (v:=(vI (l.getD i 0))) (i:=1) O O (b.ok.ne Z) BY (HO (l:=l) (j:=i) Z)) (Ao O (Cv (c:=false) O O (decide_eq_false λh=>h O)) (OkE.nil (OkQ.subF (sL [0,1,5,32] O) (OkQ.then_ (AE.cond_false O (AE.skip (OkQ.in_normal (OkQ.then_ (AE.region (AM O (AJ (AQ (c:=((i+1:Nat):Int)) O O (AN (a:=i) (b:=1) Z)) O ?_)))))))))))
  exact AI O (AC.nil (OkQ.subF (sL [0,1,5] O) (OkQ.round1 (i+1) Z Z (sF O) sr)))
 ·replace hc1:=of_decide_eq_false hc1
  exact AE.exit (OkQ.then_exit (OkQ.round1_exit (OkQ.in_exit (q2 (AI O (AC.nil (OkQ.then_ (AE.ret (AV O (Ah (v:=(Value.bool true)) O) (λw hw=>⟨rfl,hw.out⟩))))))))))
theorem T9 (l:List Int) {ca cb:List Value} {n:Nat} (hca:ca=zL l) (hcb:cb=zL l) (hn:n=l.length) (a:CX ca n) (b:RX cb n) (hl:n<=1000000000) (w:World) {S:Nat->Prop} (ha:Ro S w a) (hb:Ro S w b):Calls prog 24 #[(Value.slice a.p n n),(Value.slice b.p n b.c)] w (A9 w (Value.bool true)):=by
 subst hca hcb hn
 exact Nq l a b hl w ha hb
theorem To (a b:RI) (hc:a.c=a.l.length) (he:a.l=b.l) (w:World) (ha:Ro XJ w (ae a)) (hb:Ro XJ w (ae b)):Calls prog 24 #[(Tb a),(Tb b)] w (A9 w (Value.bool true)):=by
 obtain ⟨al,ap,ac,aok,asm⟩:=a
 obtain ⟨bl,bp,bc,bok,bsm⟩:=b
 have hc:ac=al.length:=hc
 have he:al=bl:=he
 subst hc he
 exact T9 (al.map λd:Nat=>(d:Int)) (Wi al) (Wi al) (List.length_map _).symm ⟨ap,aok⟩ ⟨bp,bc,bok⟩ (Nat.le_trans asm (by decide)) w ha hb
theorem WI {ts:List T3} (a:aW ts) (b:We ts) (hl:ts.length<=1000000) (w:World) {S:Nat->Prop} (ha:Ro S w a) (hb:Ro S w b):Calls prog 24 #[(Value.slice a.x.r.p a.x.l.length a.x.r.c),(Value.slice b.r.p b.l.length b.r.c)] w (A9 w (Value.bool true)):=by
 obtain ⟨⟨al,an,apt,⟨ap,ac,aok⟩⟩,hc⟩:=a
 obtain ⟨bl,bn,bpt,⟨bp,bc,bok⟩⟩:=b
 have hc:ac=al.length:=hc
 have he:al=bl:=bN apt bpt
 subst hc he
 have:=apt.len
 exact Nq al ⟨ap,aok⟩ ⟨bp,bc,bok⟩ Z w ha hb
theorem OM {ls:List (List Nat)} (p:bA ls) (hl:p.a.rs.length<=1000000000) (w:World) {S:Nat->Prop} (hp:Ro S w p):Calls prog 19 #[(Value.slice p.a.q.p p.a.rs.length p.a.q.c),(Value.slice p.b.q.p p.b.rs.length p.b.q.c)] w (A9 w (Value.bool true)):=by
 have hab:p.a.rs.length=p.b.rs.length:=by have h9:=congrArg List.length (p.a.e.trans p.b.e.symm);rwa [List.length_map,List.length_map] at h9
 have hpc:=p.hc
 have lp:=Dk (W:=w) hp
 refine An (args:=[(Value.slice p.a.q.p p.a.rs.length p.a.q.c),(Value.slice p.b.q.p p.b.rs.length p.b.q.c)]) (L:=(AK p.a.q.p (rvL p.a.rs)::AK p.b.q.p (rvL p.b.rs)::(D8 p.a.rs++D8 p.b.rs))) func19 O O (Ad O) (eR hp) (AE.subF (sL [0,1] O) (q4 (AI O (AC.nil (q1 (q4 (AM O (AJ (v:=(vN p.a.rs.length)) (AF O underlying80) O (AM O (AJ (v:=(vN p.b.rs.length)) (AF O underlying80) O (AJ (Cv (c:=false) O O (decide_eq_false Z)) O ?_)))))))))))
 refine AM O (AC.step (v:=(Value.slice p.a.q.p p.a.rs.length p.a.q.c)) (AA O) (AU O) O (Ad O) (AC.step (v:=(vN p.a.q.c)) (AA O) (Fz O underlying80) O (Ad O) (AC.step (v:=(Value.slice p.a.q.p p.a.rs.length p.a.q.c)) (AA O) (AU O) O (Ad O) (AC.step (v:=(vN p.a.rs.length)) (AA O) (AF O underlying80) O (Ad O) (AC.step (v:=(Value.bool false)) (AA O) (CY (c:=false) O O (decide_eq_false Z)) O (Ad O) (AJ (v:=(Value.bool false)) (AT O O) O (AC.nil (OkQ.subF (sL [0,1,4,17] O) (OkQ.then_ (AE.cond_false O (AE.skip ?_)))))))))))
 refine q1 (q4 (AI O (AC.nil (OkQ.subF (sL [0,1,4,5] O) (OkQ.then_ (AE.block ?_))))))
 refine AE.lp1 (tg λ(i:Nat)=>i<=p.a.rs.length) (tg λ(i:Nat)=>[(0,(Value.slice p.a.q.p p.a.rs.length p.a.q.c)),(1,(Value.slice p.b.q.p p.b.rs.length p.b.q.c)),(5,(vN i))]) (tg λ(i:Nat)=>(AK p.a.q.p (rvL p.a.rs)::AK p.b.q.p (rvL p.b.rs)::(D8 p.a.rs++D8 p.b.rs))) (tg λ(i:Nat)=>p.a.rs.length-i) 0 (Nat.zero_le _) (sF O) sr (λi hJ=>?_)
 have hi:=hJ
 refine AE.seq (q4 (AM O (AM O (AJ (v:=(vN p.a.rs.length)) (AF O underlying80) O (AJ (Ac (c:=(decide (i<p.a.rs.length))) O O (CD (a:=i) (b:=p.a.rs.length))) O (AC.nil (OkQ.subF (sL [0,1,5,21] O) (OkQ.then_ ?_))))))))
 refine AE.cond O (λhc1=>?_) (λhc1=>?_)
 ·replace hc1:=of_decide_eq_true hc1
  refine AE.skip (q1 (AE.block (AE.seq (Ck [(0,true),(1,true),(2,true),(3,true),(4,true),(5,true),(6,true),(7,true),(8,false),(9,true)] sr (BT O (BT O (Ao (v:=(pP (pB p.a.q.p) (pO p.a.q.p+i*1))) O (AG (j:=i) O O p.a.q.ok underlying80 sizeOf86 O Z) (Ao O (AL (v:=(Tb (p.a.rs.getD i default))) (i:=0) O O (p.a.q.ok.ne Z) XH (Q_ (rs:=p.a.rs) (j:=i) Z)) (BT O (BT O (Ao (v:=(pP (pB p.b.q.p) (pO p.b.q.p+i*1))) O (AG (j:=i) O O p.b.q.ok underlying80 sizeOf86 O Z) ?_)))))))))))
  refine Ao O (AL (v:=(Tb (p.b.rs.getD i default))) (i:=1) O O (p.b.q.ok.ne Z) XH (Q_ (rs:=p.b.rs) (j:=i) Z)) (OkE.imp O (DS call24 (λw hw=>To (p.a.rs.getD i default) (p.b.rs.getD i default) (p.hr _ (SS Z)) (Xs (p.a.e.trans p.b.e.symm) Z) w (bT hw (List.mem_append_right [AK p.a.q.p (rvL p.a.rs),AK p.b.q.p (rvL p.b.rs)] (List.mem_append_left _ (RZ Z)))) (bT hw (List.mem_append_right [AK p.a.q.p (rvL p.a.rs),AK p.b.q.p (rvL p.b.rs)] (List.mem_append_right _ (RZ Z))))) O (OkE.back sr (Ao O (Bj (c:=false) O O) (OkE.nil (OkQ.subF (sL [0,1,5,33] O) (OkQ.then_ (AE.cond_false O (AE.skip (OkQ.in_normal (OkQ.then_ ?_)))))))))))
  exact AE.region (AM O (AJ (AQ (c:=((i+1:Nat):Int)) O O (AN (a:=i) (b:=1) Z)) O (AI O (AC.nil (OkQ.subF (sL [0,1,5] O) (OkQ.round1 (i+1) Z Z (sF O) sr))))))
 ·replace hc1:=of_decide_eq_false hc1
  exact AE.exit (OkQ.then_exit (OkQ.round1_exit (OkQ.in_exit (q2 (AI O (AC.nil (OkQ.then_ (AE.ret (AV O (Ah (v:=(Value.bool true)) O) (λw hw=>⟨rfl,hw.out⟩))))))))))
set_option maxHeartbeats 4000000 in
theorem SG {N:Nat} {ps:List Pt} {ts ss vs:List T3} (x:MX ps ts ss) (y:RM N ts vs) (hNp:N=ps.length) (hp:ps.length<=4096) (htl:ts.length<=1000000) (hnb:BI ps.length ts=true) (ho:Bc ts (3*ts.length)=true) (hwn:0<(AX ts).length) (hne:0<ts.length) (w:World) {S:Nat->Prop} (hx:Ro S w x) (hy:Ro S w y):Calls prog 7 #[(aG (Bp x)),(aG (Bt y))] w (A9 w (Value.bool true)):=by
 have hnN:BI N ts=true:=by rw [hNp];exact hnb
 have hN4:N<=4096:=by omega
 have hor:(BI ps.length ts&&Bc ts (3*ts.length))=true:=by rw [hnb,ho];rfl
 have hwl:=Kb (ts:=ts)
 have hrl:=IM (ts:=ts)
 have hel0:=J2 ts
 have hcl0:=Hl (ts:=ts) (3*ts.length)
 have hez:FR ts=((CE ts (3*ts.length)).length:Int)-(Bd ts).length+ts.length:=rfl
 have lx:=Dk (W:=w) hx
 have ly:=Dk (W:=w) hy
 refine An (args:=[(aG (Bp x)),(aG (Bt y))]) (L:=[AK x.a.p (rowsL Bf ps),AK x.b.p (rowsL AZ ts),AK x.c.p (rowsL AZ ss),AK y.a.p (y.cs),AK y.b.p (rowsL AZ ts),AK y.c.p (rowsL AZ vs)]) func7 O O (Ad O) (E3 hx (E3 hy BA)) (AE.subF (sL [0,1] O) (q4 (Ca (cs:=Bp x) O λb1=>Ca (cs:=Bt y) O λb2=>AI O (q3 (sL [2,3,4] O) (BF 1 DA O (AC.callR (S:=S) (α:=CX (rowsL AZ (AX ts)) (AX ts).length) (args:=[(aG (Bp x))]) call16 (λw hw=>OL x hor Z Z w (Br hw 2 O lx)) O O O λwa lwa=>AI O (q3 (sL [2,3,4,5] O) (BF 1 C7 O ?_))))))))
 refine AC.callR (S:=S) (α:=RX (rowsL AZ (AX ts)) (AX ts).length) (args:=[(aG (Bt y))]) call17 (λw hw=>(by have h9:=OY y hnN Z hN4 (Je ho _ (Nat.le_refl _)) w (Br hw 6 O ly);rw [Q8 hnN Z ho] at h9;exact h9)) O O O λwb lwb=>AI O (q6 (sL [2,3,4,5,6] O) (AE.seq (Ck [(0,true),(2,true),(1,false),(3,false),(4,true),(5,true),(6,true),(7,true),(8,true),(9,true),(10,true),(11,true),(12,true),(13,true),(14,true),(15,true),(16,true),(17,true),(18,true),(19,true),(20,true),(22,true),(21,false),(23,false),(24,false),(25,true),(26,true)] sr (G6 3 DA O (G6 2 C7 O (OkE.imp O (DS (args:=[(aG (Bp x))]) (v:=(Value.bool true)) call6 (λw hw=>(by have h9:=Oi x Z Z w (Br hw 4 O lx);rw [hor] at h9;exact h9)) O (OkE.back sr (OkE.imp O (DS (args:=[(aG (Bt y))]) (v:=(Value.bool true)) call18 (λw hw=>(by have h9:=MM y hnN Z Z w (Br hw 7 O ly);rw [Je ho _ (Nat.le_refl _)] at h9;exact h9)) O ?_))))))))))
 refine OkE.back sr (Ao O (GA (c:=false) O O underlying4 O) (BT O (OkE.pas (v:=(Value.slice wa.p ((AX ts).length) ((AX ts).length))) O (AA O) (AU O) O O (OkE.pas (v:=(vN ((AX ts).length))) O (AA O) (AF O underlying74) O O (OkE.pas (v:=(Value.slice wb.p ((AX ts).length) wb.c)) O (AA O) (AU O) O O (OkE.pas (v:=(vN ((AX ts).length))) O (AA O) (AF O underlying76) O O (OkE.pas (v:=(Value.bool false)) O (AA O) (Cv (c:=false) O O (decide_eq_false λh=>h O)) O O (Ao (v:=(Value.bool false)) O (AT O O) (BT O (OkE.pas (v:=(Value.slice wa.p ((AX ts).length) ((AX ts).length))) O (AA O) (AU O) O O (OkE.pas (v:=(vN ((AX ts).length))) O (AA O) (Fz O underlying74) O O ?_)))))))))))
 refine OkE.pas (v:=(Value.slice wa.p ((AX ts).length) ((AX ts).length))) O (AA O) (AU O) O O (OkE.pas (v:=(vN ((AX ts).length))) O (AA O) (AF O underlying74) O O (OkE.pas (v:=(Value.bool false)) O (AA O) (CY (c:=false) O O (decide_eq_false Z)) O O (Ao (v:=(Value.bool false)) O (AT O O) (BT O (OkE.pas (v:=(aG (Bp x))) O (AA O) (BB (i:=3) (vs:=Bp x) O O DA.a DA.s O O) O O (OkE.pas (v:=(aG (Bt y))) O (AA O) (BB (i:=2) (vs:=Bt y) O O C7.a C7.s O O) O O (OkE.imp O (AC.unguard (AA O) (AC.callR (S:=S) (α:=bK (Ir ts)) (args:=[(aG (Bp x))]) call20 (λw hw=>Lq x hor hwn Z Z w (Br hw 4 O lx)) O O O λla lla=>?_)))))))))
 have hlal:la.x.rs.length<=1000000000:=by have h9:=congrArg List.length la.x.e;rw [List.length_map] at h9;rw [h9];exact W_ Z
 refine AC.permR (L2:=(AK la.x.q.p (rvL la.x.rs)::AK wb.p (rowsL AZ (AX ts))::AK wa.p (rowsL AZ (AX ts))::Af b2 38 (Bt y)::Af b1 31 (Bp x)::AK x.a.p (rowsL Bf ps)::AK x.b.p (rowsL AZ ts)::AK x.c.p (rowsL AZ ss)::AK y.a.p (y.cs)::AK y.b.p (rowsL AZ ts)::AK y.c.p (rowsL AZ vs)::D8 la.x.rs)) (show List.Perm _ (AK la.x.q.p (rvL la.x.rs)::AK wb.p (rowsL AZ (AX ts))::AK wa.p (rowsL AZ (AX ts))::Af b2 38 (Bt y)::Af b1 31 (Bp x)::AK x.a.p (rowsL Bf ps)::AK x.b.p (rowsL AZ ts)::AK x.c.p (rowsL AZ ss)::AK y.a.p (y.cs)::AK y.b.p (rowsL AZ ts)::AK y.c.p (rowsL AZ vs)::D8 la.x.rs) from Pr [AK la.x.q.p (rvL la.x.rs)] (D8 la.x.rs) [AK wb.p (rowsL AZ (AX ts)),AK wa.p (rowsL AZ (AX ts)),Af b2 38 (Bt y),Af b1 31 (Bp x),AK x.a.p (rowsL Bf ps),AK x.b.p (rowsL AZ ts),AK x.c.p (rowsL AZ ss),AK y.a.p (y.cs),AK y.b.p (rowsL AZ ts),AK y.c.p (rowsL AZ vs)]) (OkE.back (sl (sk (sk (sk (sk (sk (sk (sk (sk (sk (sk (List.nil_sublist _)))))))))))) (OkE.imp O (AC.unguard (AA O) (AC.callR (S:=S) (α:=V_ (Ir ts)) (args:=[(aG (Bt y))]) call21 (λw hw=>Sw y hnN ho Z hN4 w (Br hw 8 O ly)) O O O λlb llb=>AC.permR (L2:=(AK lb.q.p (rvL lb.rs)::AK la.x.q.p (rvL la.x.rs)::AK wb.p (rowsL AZ (AX ts))::AK wa.p (rowsL AZ (AX ts))::Af b2 38 (Bt y)::Af b1 31 (Bp x)::AK x.a.p (rowsL Bf ps)::AK x.b.p (rowsL AZ ts)::AK x.c.p (rowsL AZ ss)::AK y.a.p (y.cs)::AK y.b.p (rowsL AZ ts)::AK y.c.p (rowsL AZ vs)::(D8 la.x.rs++D8 lb.rs))) (show List.Perm _ (AK lb.q.p (rvL lb.rs)::AK la.x.q.p (rvL la.x.rs)::AK wb.p (rowsL AZ (AX ts))::AK wa.p (rowsL AZ (AX ts))::Af b2 38 (Bt y)::Af b1 31 (Bp x)::AK x.a.p (rowsL Bf ps)::AK x.b.p (rowsL AZ ts)::AK x.c.p (rowsL AZ ss)::AK y.a.p (y.cs)::AK y.b.p (rowsL AZ ts)::AK y.c.p (rowsL AZ vs)::(D8 la.x.rs++D8 lb.rs)) from Pr [AK lb.q.p (rvL lb.rs)] (D8 lb.rs) (AK la.x.q.p (rvL la.x.rs)::AK wb.p (rowsL AZ (AX ts))::AK wa.p (rowsL AZ (AX ts))::Af b2 38 (Bt y)::Af b1 31 (Bp x)::AK x.a.p (rowsL Bf ps)::AK x.b.p (rowsL AZ ts)::AK x.c.p (rowsL AZ ss)::AK y.a.p (y.cs)::AK y.b.p (rowsL AZ ts)::AK y.c.p (rowsL AZ vs)::D8 la.x.rs)) (OkE.back (sl (sl (sk (sk (sk (sk (sk (sk (sk (sk (sk (sk (List.nil_sublist _))))))))))))) (OkE.imp O (AC.call (v:=(Value.bool true)) (AA O) (A_ (args:=[(Value.slice la.x.q.p la.x.rs.length la.x.q.c),(Value.slice lb.q.p lb.rs.length lb.q.c)]) O O call19) (λw hw=>OM (⟨la.x,lb,la.hc,la.hr⟩:bA (Ir ts)) hlal w (bC hw _ (Xz (A:=[AK lb.q.p (rvL lb.rs),AK la.x.q.p (rvL la.x.rs),AK wb.p (rowsL AZ (AX ts)),AK wa.p (rowsL AZ (AX ts)),Af b2 38 (Bt y),Af b1 31 (Bp x),AK x.a.p (rowsL Bf ps),AK x.b.p (rowsL AZ ts),AK x.c.p (rowsL AZ ss),AK y.a.p (y.cs),AK y.b.p (rowsL AZ ts),AK y.c.p (rowsL AZ vs)]) (.tail _ (.head _)) (.head _)))) O (Ad O) (OkE.back (sl (sl (sk (sk (sk (sk (sk (sk (sk (sk (sk (sk (List.nil_sublist _))))))))))))) (OkE.pas (v:=(Value.bool false)) O (AA O) (Bj (c:=false) O O) O O (Ao (v:=(Value.bool false)) O (AT O O) ?_))))))))))
 refine OkE.nil (OkQ.subF (sL [2,3,4,5,6,42] O) (OkQ.then_ (AE.cond_false O (AE.skip (q1 (q4 (AI O (AC.nil (OkQ.subF (sL [2,3,4,5,6,7] O) (OkQ.then_ (AE.block ?_)))))))))))
 refine AE.lp1 (tg λ(i:Nat)=>i<=(AX ts).length) (tg λ(i:Nat)=>[(2,(pP b1 0)),(3,(pP b2 0)),(5,(Value.slice wa.p ((AX ts).length) ((AX ts).length))),(6,(Value.slice wb.p ((AX ts).length) wb.c)),(7,(vN i))]) (tg λ(i:Nat)=>(AK lb.q.p (rvL lb.rs)::AK la.x.q.p (rvL la.x.rs)::AK wb.p (rowsL AZ (AX ts))::AK wa.p (rowsL AZ (AX ts))::Af b2 38 (Bt y)::Af b1 31 (Bp x)::AK x.a.p (rowsL Bf ps)::AK x.b.p (rowsL AZ ts)::AK x.c.p (rowsL AZ ss)::AK y.a.p (y.cs)::AK y.b.p (rowsL AZ ts)::AK y.c.p (rowsL AZ vs)::(D8 la.x.rs++D8 lb.rs))) (tg λ(i:Nat)=>(AX ts).length-i) 0 (Nat.zero_le _) (sF O) sr (λi hJ=>?_)
 have hi:=hJ
 refine AE.seq (q4 (AM O (AM O (AJ (v:=(vN ((AX ts).length))) (AF O underlying74) O (AJ (Ac (c:=(decide (i<((AX ts).length)))) O O (CD (a:=i) (b:=(AX ts).length))) O (AC.nil (OkQ.subF (sL [2,3,5,6,7,46] O) (OkQ.then_ ?_))))))))
 refine AE.cond O (λhc1=>?_) (λhc1=>?_)
 ·replace hc1:=of_decide_eq_true hc1
  refine AE.skip (q1 (AE.block (AE.seq (Ck [(0,true),(1,true),(2,true),(3,true),(4,true),(5,true),(6,true),(7,true),(8,true),(9,true),(10,true),(11,true),(12,true),(13,true),(14,true),(15,true),(16,true),(17,true),(18,true),(19,true),(20,true),(21,true),(22,true),(23,true),(24,true),(25,true),(26,true),(27,true),(28,true),(29,true),(30,true),(31,true),(32,true),(33,true),(34,true),(35,true),(36,true)] sr (BT O (BT O (Ao (v:=(pP (pB wa.p) (pO wa.p+i*3))) O (AG (j:=i) O O wa.ok underlying74 sizeOf84 O Z) (Ao (v:=(pP (pB wa.p) (pO wa.p+(i*3+0)))) O (AB O underlying84 O sizeOf3 (Nat.add_assoc _ _ _)) (Ao O (AL (v:=(vN (((AX ts).getD i ((0,0,0):Tq3)).1))) (i:=3) O O (Aw.ne wa.ok Z) BY (Az Aa ((0,0,0):Tq3) _ _ 0 Z (by decide) O)) (BT O (BT O ?_)))))))))))
  refine Ao (v:=(pP (pB wb.p) (pO wb.p+i*3))) O (AG (j:=i) O O wb.ok underlying76 sizeOf85 O Z) (Ao (v:=(pP (pB wb.p) (pO wb.p+(i*3+0)))) O (AB O underlying85 O sizeOf3 (Nat.add_assoc _ _ _)) (Ao O (AL (v:=(vN (((AX ts).getD i ((0,0,0):Tq3)).1))) (i:=2) O O (Aw.ne wb.ok Z) BY (Az Aa ((0,0,0):Tq3) _ _ 0 Z (by decide) O)) (Ao O (Cv (c:=false) O O (decide_eq_false λh=>h O)) (BT O (OkE.pas (v:=(Value.slice wa.p ((AX ts).length) ((AX ts).length))) O (AA O) (AU O) O O (OkE.pas (v:=(vN i)) O (AA O) (AU O) O O (OkE.pas (v:=(pP (pB wa.p) (pO wa.p+i*3))) O (AA O) (AG (j:=i) O O wa.ok underlying74 sizeOf84 O Z) O O (OkE.pas (v:=(pP (pB wa.p) (pO wa.p+(i*3+1)))) O (AA O) (AB O underlying84 O sizeOf3 (Nat.add_assoc _ _ _)) O O (OkE.pas (v:=(vN (((AX ts).getD i ((0,0,0):Tq3)).2.1))) O (AA O) (AL (v:=(vN (((AX ts).getD i ((0,0,0):Tq3)).2.1))) (i:=3) O O (Aw.ne wa.ok Z) BY (Az Aa ((0,0,0):Tq3) _ _ 1 Z (by decide) O)) O O (OkE.pas (v:=(Value.slice wb.p ((AX ts).length) wb.c)) O (AA O) (AU O) O O (OkE.pas (v:=(vN i)) O (AA O) (AU O) O O ?_)))))))))))
  refine OkE.pas (v:=(pP (pB wb.p) (pO wb.p+i*3))) O (AA O) (AG (j:=i) O O wb.ok underlying76 sizeOf85 O Z) O O (OkE.pas (v:=(pP (pB wb.p) (pO wb.p+(i*3+1)))) O (AA O) (AB O underlying85 O sizeOf3 (Nat.add_assoc _ _ _)) O O (OkE.pas (v:=(vN (((AX ts).getD i ((0,0,0):Tq3)).2.1))) O (AA O) (AL (v:=(vN (((AX ts).getD i ((0,0,0):Tq3)).2.1))) (i:=2) O O (Aw.ne wb.ok Z) BY (Az Aa ((0,0,0):Tq3) _ _ 1 Z (by decide) O)) O O (OkE.pas (v:=(Value.bool false)) O (AA O) (Cv (c:=false) O O (decide_eq_false λh=>h O)) O O (Ao (v:=(Value.bool false)) O (AT O O) (BT O (OkE.pas (v:=(Value.slice wa.p ((AX ts).length) ((AX ts).length))) O (AA O) (AU O) O O (OkE.pas (v:=(vN i)) O (AA O) (AU O) O O (OkE.pas (v:=(pP (pB wa.p) (pO wa.p+i*3))) O (AA O) (AG (j:=i) O O wa.ok underlying74 sizeOf84 O Z) O O (OkE.pas (v:=(pP (pB wa.p) (pO wa.p+(i*3+2)))) O (AA O) (AB O underlying84 O sizeOf3 (Nat.add_assoc _ _ _)) O O (OkE.pas (v:=(vN (((AX ts).getD i ((0,0,0):Tq3)).2.2))) O (AA O) (AL (v:=(vN (((AX ts).getD i ((0,0,0):Tq3)).2.2))) (i:=3) O O (Aw.ne wa.ok Z) BY (Az Aa ((0,0,0):Tq3) _ _ 2 Z (by decide) O)) O O (OkE.pas (v:=(Value.slice wb.p ((AX ts).length) wb.c)) O (AA O) (AU O) O O ?_)))))))))))
  refine OkE.pas (v:=(vN i)) O (AA O) (AU O) O O (OkE.pas (v:=(pP (pB wb.p) (pO wb.p+i*3))) O (AA O) (AG (j:=i) O O wb.ok underlying76 sizeOf85 O Z) O O (OkE.pas (v:=(pP (pB wb.p) (pO wb.p+(i*3+2)))) O (AA O) (AB O underlying85 O sizeOf3 (Nat.add_assoc _ _ _)) O O (OkE.pas (v:=(vN (((AX ts).getD i ((0,0,0):Tq3)).2.2))) O (AA O) (AL (v:=(vN (((AX ts).getD i ((0,0,0):Tq3)).2.2))) (i:=2) O O (Aw.ne wb.ok Z) BY (Az Aa ((0,0,0):Tq3) _ _ 2 Z (by decide) O)) O O (OkE.pas (v:=(Value.bool false)) O (AA O) (Cv (c:=false) O O (decide_eq_false λh=>h O)) O O (Ao (v:=(Value.bool false)) O (AT O O) (OkE.nil (OkQ.subF (sL [2,3,5,6,7,85] O) (OkQ.then_ (AE.cond_false O (AE.skip (OkQ.in_normal ?_)))))))))))
  exact OkQ.then_ (AE.region (AM O (AJ (AQ (c:=((i+1:Nat):Int)) O O (AN (a:=i) (b:=1) Z)) O (AI O (AC.nil (OkQ.subF (sL [2,3,5,6,7] O) (OkQ.round1 (i+1) Z Z (sF O) sr)))))))
 ·replace hc1:=of_decide_eq_false hc1
  refine AE.exit (OkQ.then_exit (OkQ.round1_exit (OkQ.in_exit (q2 (BF 5 DA O (AC.callR (S:=S) (α:=aW ts) (args:=[(aG (Bp x))]) call22 (λw hw=>L0 x hnb hne Z Z w (Br hw 6 O lx)) O O O λpa lpa=>AM O (AJ (Ab (v:=(Value.slice pa.x.r.p pa.x.l.length pa.x.r.c)) O O) O (AJ (Ab (v:=(vN pa.x.n)) O O) O (AI O (AI O ?_))))))))))
  refine q3 (sL [2,3,5,6,7,8,9] O) (BF 5 C7 O (AC.callR (S:=S) (α:=We ts) (args:=[(aG (Bt y))]) call23 (λw hw=>SJ y hnN Z Z w (Br hw 10 O ly)) O O O λpb lpb=>?_))
  have hpn:=Yv pa.x.pts pb.pts
  have hpl:=pa.x.pts.nle
  refine AM O (AJ (Ab (v:=(Value.slice pb.r.p pb.l.length pb.r.c)) O O) O (AJ (Ab (v:=(vN pb.n)) O O) O (AI O (AI O (q6 (sL [2,3,5,6,7,8,9,10,11] O) (Ck [(0,true),(1,true),(2,false),(3,true),(4,true),(5,true),(6,true),(7,true),(8,true),(9,true),(11,true),(10,false),(12,false),(13,true),(14,true),(15,true),(16,true),(18,true),(19,true),(17,false),(20,false),(21,true),(22,true),(23,true),(24,true)] sr (BT O (BT O (OkE.imp O (DS call24 (λw hw=>WI pa pb Z w (Br (S:=S) hw 1 O lpa) (Br (S:=S) hw 0 O lpb)) O (OkE.back sr ?_)))))))))))
  refine BT O (OkE.pas (v:=(vN pa.x.n)) O (AA O) (AU O) O O (OkE.pas (v:=(vN pb.n)) O (AA O) (AU O) O O (OkE.pas (v:=(Value.bool true)) O (AA O) (BQ (c:=true) O O (decide_eq_true Z)) O O (Ao (v:=(Value.bool true)) O (AW O O) (BT O (OkE.pas (v:=(aG (Bp x))) O (AA O) (BB (i:=7) (vs:=Bp x) O O DA.a DA.s O O) O O (OkE.pas (v:=(aG (Bt y))) O (AA O) (BB (i:=6) (vs:=Bt y) O O C7.a C7.s O O) O O (OkE.imp O (AC.call (v:=(vI (FR ts))) (AA O) (A_ (args:=[(aG (Bp x))]) O O call25) (λw hw=>KG x hnb Z Z w (Br hw 8 O lx)) O (Ad O) (OkE.back sr (OkE.imp O ?_)))))))))))
  refine AC.call (v:=(vI (FR ts))) (AA O) (A_ (args:=[(aG (Bt y))]) O O call26) (λw hw=>Mf y hnN Z hN4 w (Br hw 11 O ly)) O (Ad O) (OkE.back sr (OkE.pas (v:=(Value.bool true)) O (AA O) (BQ (c:=true) O O (decide_eq_true O)) O O (Ao (v:=(Value.bool true)) O (AW O O) (BT O (OkE.pas (v:=(aG (Bp x))) O (AA O) (BB (i:=7) (vs:=Bp x) O O DA.a DA.s O O) O O (OkE.pas (v:=(vN pb.n)) O (AA O) (AU O) O O (OkE.pas (v:=(aG (Bt y))) O (AA O) (BB (i:=6) (vs:=Bt y) O O C7.a C7.s O O) O O (OkE.imp O (AC.call (v:=(vI (((pa.x.n:Nat):Int)-FR ts))) (AA O) (A_ (args:=[(aG (Bp x))]) O O call27) (λw hw=>Oj x pa.x.l pa.x.n pa.x.pts hnb hne Z Z w (Br hw 8 O lx)) O (Ad O) (OkE.back sr (OkE.imp O ?_)))))))))))
  exact AC.call (v:=(vI (FR ts))) (AA O) (A_ (args:=[(aG (Bt y))]) O O call26) (λw hw=>Mf y hnN Z hN4 w (Br hw 11 O ly)) O (Ad O) (OkE.back sr (OkE.pas (v:=(vI (((pb.n:Nat):Int)-FR ts))) O (AA O) (BU (c:=(((pb.n:Nat):Int)-FR ts)) O O (by rw [Ay Z Z])) O O (OkE.pas (v:=(Value.bool true)) O (AA O) (BQ (c:=true) O O (decide_eq_true (by rw [hpn]))) O O (Ao (v:=(Value.bool true)) O (AW O O) (pS' O (OkE.nil (OkQ.subF (sL [2,3,5,6,7,4] O) (OkQ.then_ (AE.ret (AV O (Ah (v:=(Value.bool true)) O) (λw hw=>⟨rfl,hw.out⟩)))))))))))
end
section
set_option maxRecDepth 100000
theorem Rj  (w:World) {S:Nat->Prop}  :Calls prog 133 #[] w (Am (NX 1) S w):=by
 exact Aq (args:=[]) func133 O O (Ad O) (AE.subF sN (q4 (AI O (AC.nil (q2 (cN (S:=S) (x:=1) (args:=[(Value.int .u64 (1:Int))]) call135 (λw hw=>Po 1 (by first|omega|(simp only [Int.natAbs_neg];omega)) w) O O O λg1 lg1=>AI O (AC.nil (OkQ.subF (sL [0] O) (OkQ.then_ (AE.ret (AV O (Ah (v:=(DM g1)) O) (λw hw=>G9 (a:=(g1:NX 1)) hw (Br hw 0 O lg1) O))))))))))))
theorem Nb {x:Rat} (a:FX x) (hs:Sz x<=16777216) (w:World) {S:Nat->Prop} (ha:Ro S w a)  :Calls prog 107 #[(aG (EB a))] w (Am (NX x.den) S w):=by
 have s0:=D_ x
 have s1:=Dd x
 have s2:=Hy x
 have h1w:=Ii
 have la:=Dk (W:=w) ha
 refine An (args:=[(aG (EB a))]) (L:=[FF a.z.n,FF a.m]) func107 O O (Ad O) (aY ha BA) (AE.subF (sL [0] O) (q4 (Ca (cs:=EB a) O λb1=>AI O (q6 (sL [1,2] O) (Ck [(0,true),(1,true),(2,false),(3,false),(4,true)] sr (Ao (v:=(pP b1 2)) O (AB O underlying97 O sizeOf93 O) (Bk 0 (DM a.m) PQ O (OkE.imp O (cN (S:=S) (x:=1) (args:=[]) call133 (λw hw=>Rj w) O O O λg1 lg1=>OkE.back (sl sr) ?_)))))))))
 exact OkE.imp O (cN (S:=S) (x:=x.den) (args:=[(DM a.m),(DM g1)]) call134 (λw hw=>(Am.cast (T:=λi=>NX i) (Nat.sub_add_cancel x.den_pos) (Xf a.m g1 (by first|omega|(simp only [Int.natAbs_neg];omega)) (by first|omega|(simp only [Int.natAbs_neg];omega)) w (eH (Br hw 2 O la)) (Br hw 0 O lg1)))) O O O λg2 lg2=>OkE.back (sl (sl sr)) (pS' O (OkE.nil (OkQ.subF (sL [2] O) (OkQ.then_ (AE.ret (AV O (Ah (v:=(DM g2)) O) (λw hw=>G9 (a:=(g2:NX x.den)) hw (Br hw 0 O lg2) O))))))))
theorem OB {n:Int} {k:Nat} (z:ZX n) (d:NX k) (hn:nw n.natAbs<=67108864) (hk:nw k<=67108864) (h0:k≠0) (w:World) {S:Nat->Prop} (hz:Ro S w z) (hd:Ro S w d)  :Calls prog 105 #[(aG (Fw z)),(DM d)] w (Am (FX (mkRat n k)) S w):=by
 have hg:0<Nat.gcd n.natAbs k:=Nat.pos_of_ne_zero λh=>h0 (Nat.eq_zero_of_gcd_eq_zero_right h)
 have hgw:nw (Nat.gcd n.natAbs k)<=nw k:=Cu (Nat.gcd_le_right _ (Nat.pos_of_ne_zero h0))
 have hqw:nw (k/Nat.gcd n.natAbs k)<=nw k:=Cu (Nat.div_le_self _ _)
 have hq1:1<=k/Nat.gcd n.natAbs k:=Nat.div_pos (Nat.gcd_le_right _ (Nat.pos_of_ne_zero h0)) hg
 have lz:=Dk (W:=w) hz
 have ld:=Dk (W:=w) hd
 refine An (args:=[(aG (Fw z)),(DM d)]) (L:=[FF z.n,FF d]) func105 O O (Ad O) (bM hz (cU hd BA)) (AE.subF (sL [0,1] O) (q4 (Ca (cs:=Fw z) O λb1=>al SI O λb2=>q3 (sL [1,2,4] O) (AJ (v:=(pP b1 1)) (AB O underlying95 O sizeOf93 O) O (BE 1 (DM z.n) PQ O (AM O (cN (S:=S) (x:=(Nat.gcd n.natAbs k)) (args:=[(DM z.n),(DM d)]) call130 (λw hw=>XP z.n d (by first|omega|(simp only [Int.natAbs_neg];omega)) (by first|omega|(simp only [Int.natAbs_neg];omega)) w (aX (Br hw 2 O lz)) (Br hw 3 O ld)) O O O λg1 lg1=>AI O (q3 (sL [1,2,4,5] O) ?_))))))))
 refine AJ (v:=(pP b1 1)) (AB O underlying95 O sizeOf93 O) O (BE 2 (DM z.n) PQ O (AM O (cD (S:=S) (u:=(n.natAbs/(Nat.gcd n.natAbs k))) (v:=(n.natAbs%(Nat.gcd n.natAbs k))) (args:=[(DM z.n),(DM g1)]) call131 (λw hw=>R9 z.n g1 hg Z Z w (aX (Br hw 3 O lz)) (Br hw 0 O lg1)) O O O λg2 lg2=>AM O (AJ (Ab (v:=(DM g2.q)) O O) O (AJ (Ab (v:=(DM g2.r)) O O) O (AI O (AI O (q3 (sL [1,2,4,5,6] O) (AM O (AM O ?_))))))))))
 refine cD (S:=S) (u:=(k/(Nat.gcd n.natAbs k))) (v:=(k%(Nat.gcd n.natAbs k))) (args:=[(DM d),(DM g1)]) call131 (λw hw=>R9 d g1 hg Z Z w (Br hw 6 O ld) (Br hw 2 O lg1)) O O O λg3 lg3=>AM O (AJ (Ab (v:=(DM g3.q)) O O) O (AJ (Ab (v:=(DM g3.r)) O O) O (AI O (AI O (q3 (sL [1,2,4,5,6,8] O) (AJ (v:=(pP b1 0)) (AB O underlying95 O sizeOf4 O) O (BE 6 (Value.bool (decide (n<0))) PM O (AM O (cZ (S:=S) (x:=((mkRat n k).num)) (args:=[(Value.bool (decide (n<0))),(DM g2.q)]) call106 (λw hw=>(Am.cast (T:=λi=>ZX i) (Uj h0) (GK (decide (n<0)) g2.q w (bS (Br hw 2 O lg2))))) O O O λg4 lg4=>AM O ?_)))))))))
 exact cN (S:=S) (x:=1) (args:=[]) call133 (λw hw=>Rj w) O O O λg5 lg5=>cN (S:=S) (x:=((mkRat n k).den-1)) (args:=[(DM g3.q),(DM g5)]) call132 (λw hw=>(Am.cast (T:=λi=>NX i) (U8 h0) (Xn g3.q g5 hq1 Z w (bS (Br hw 2 O lg3)) (Br hw 0 O lg5)))) O O O λg6 lg6=>AJ (v:=(aG (Fw g4++[(DM g6)]))) (AY (zs:=[(Value.bool false),(Value.slice none 0 0),(Value.slice none 0 0)]) (vs:=Fw g4++[(DM g6)]) (pv:=[(0,(aG (Fw g4))),(1,(DM g6))]) (places:=[(0,2),(2,1)]) zeroValue97 underlying97 (λw=>by simp [sizeOf93,sizeOf95]) O O) O (F2 8 (off:=0) (vs:=Fw g4++[(DM g6)]) (cs':=Fw g4++[(DM g6)]) (AP O) O sizeOf97 O (AC.nil (OkQ.subF (sL [1,2,4,5] O) (OkQ.then_ (AE.ret (AV O (BP (i:=8) (cs:=Fw g4++[(DM g6)]) O O isAgg97 sizeOf97 O) (λw hw=>G9 (a:=((FX.mk g4 g6):FX (mkRat n k))) hw (d9 (Br hw 2 O lg4) (Br hw 0 O lg6)) O)))))))
theorem Hc {r0:Int} (x0:ZX r0):Instr.fill ([(0,2),(2,1)].toArray[·]?) ([(Value.bool false),(Value.slice none 0 0),(Value.slice none 0 0)]).toArray [(0,.agg (Fw x0).toArray)]=some (Fw x0++[(Value.slice none 0 0)]).toArray:=by kernel_rfl
theorem Qm (z:Int) (hz:-9223372036854775808<=z) (hz2:z<9223372036854775808) (w:World) {S:Nat->Prop}  :Calls prog 88 #[(vI z)] w (Am (FX ((z:Int):Rat)) S w):=by
 refine Aq (args:=[(vI z)]) func88 O O (Ad O) (AE.subF (sL [0] O) (q4 (al SI O λb1=>AC.nil (q2 (AM O (cZ (S:=S) (x:=(((z:Int):Rat).num)) (args:=[(vI z)]) call108 (λw hw=>(Am.cast (T:=λi=>ZX i) (show z=((z:Int):Rat).num from O) (ZE z Z Z w))) O O O λg1 lg1=>AJ (v:=(aG (Fw g1++[(Value.slice none 0 0)]))) (AY (zs:=[(Value.bool false),(Value.slice none 0 0),(Value.slice none 0 0)]) (vs:=Fw g1++[(Value.slice none 0 0)]) (pv:=[(0,(aG (Fw g1)))]) (places:=[(0,2),(2,1)]) zeroValue97 underlying97 (λw=>by simp [sizeOf93,sizeOf95]) O (Hc g1)) O (Ed O sizeOf97 O (AC.nil (OkQ.subF (sL [2] O) ?_)))))))))
 exact OkQ.then_ (AE.ret (AV O (BP (i:=1) (cs:=Fw g1++[(Value.slice none 0 0)]) O O isAgg97 sizeOf97 O) (λw hw=>G9 (a:=((FX.mk g1 NX.zero):FX ((z:Int):Rat))) hw (d9 (Br hw 0 O lg1) Zu) O)))
theorem VX {x:Rat} (a:FX x) (w:World) {S:Nat->Prop} (ha:Ro S w a)  :Calls prog 103 #[(aG (EB a))] w (A9 w (vI x.num.sign)):=by
 have la:=Dk (W:=w) ha
 refine An (args:=[(aG (EB a))]) (L:=[FF a.z.n,FF a.m]) func103 O O (Ad O) (aY ha BA) (AE.subF (sL [0] O) (q4 (Ca (cs:=EB a) O λb1=>AI O (q3 (sL [1,2] O) (AJ (v:=(pP b1 0)) (AB O underlying97 O sizeOf95 O) O (Pi 0 (Fw a.z) Ze O (DS call127 (λw hw=>Ty a.z w (a_ (Br hw 1 O la))) O (AI O (AC.nil (OkQ.subF (sL [2] O) ?_))))))))))
 exact OkQ.then_ (AE.ret (AV O (Ah (v:=(vI x.num.sign)) O) (λw hw=>⟨rfl,hw.out⟩)))
theorem XD {x y:Rat} (a:FX x) (b:FX y) (hs:Sz x+Sz y<=16777216) (w:World) {S:Nat->Prop} (ha:Ro S w a) (hb:Ro S w b)  :Calls prog 104 #[(aG (EB a)),(aG (EB b))] w (Am (FX (x*y)) S w):=by
 have s0:=D_ x
 have s1:=Dd x
 have s2:=Hy x
 have s3:=D_ y
 have s4:=Dd y
 have s5:=Hy y
 have s6:=EI x y
 have s7:=EI y x
 have s8:=Ko x y
 have s9:=Kf x y
 have s10:=Gu (x.num*((y.den:Nat):Int)) (y.num*((x.den:Nat):Int))
 have h0x:=x.den_nz
 have h0y:=y.den_nz
 have h0xy:=Nat.mul_ne_zero h0x h0y
 have la:=Dk (W:=w) ha
 have lb:=Dk (W:=w) hb
 refine An (args:=[(aG (EB a)),(aG (EB b))]) (L:=[FF a.z.n,FF a.m,FF b.z.n,FF b.m]) func104 O O (Ad O) (aY ha (aY hb BA)) (AE.subF (sL [0,1] O) (q4 (Ca (cs:=EB a) O λb1=>Ca (cs:=EB b) O λb2=>al SI O λb3=>q6 (sL [2,3,4] O) (Ck [(0,true),(1,true),(2,true),(3,true),(5,true),(7,true),(4,false),(6,false),(8,false),(9,false),(10,false),(11,false)] (sl sr) (Ao (v:=(pP b1 0)) O (AB O underlying97 O sizeOf95 O) (Tu 1 (Fw a.z) Ze O (Ao (v:=(pP b2 0)) O (AB O underlying97 O sizeOf95 O) (Tu 0 (Fw b.z) Ze O ?_))))))))
 refine G6 1 VA O (G6 0 VA O (OkE.imp O (cZ (S:=S) (x:=(x.num*y.num)) (args:=[(aG (Fw a.z)),(aG (Fw b.z))]) call128 (λw hw=>W3 a.z b.z Z Z w (a_ (Br hw 3 O la)) (a_ (Br hw 5 O lb))) O O O λg1 lg1=>OkE.back (sl (sl sr)) (OkE.imp O (cN (S:=S) (x:=x.den) (args:=[(aG (EB a))]) call107 (λw hw=>Nb a Z w (Br hw 4 O la)) O O O λg2 lg2=>OkE.back (sl (sl (sl sr))) (OkE.imp O (cN (S:=S) (x:=y.den) (args:=[(aG (EB b))]) call107 (λw hw=>Nb b Z w (Br hw 7 O lb)) O O O λg3 lg3=>OkE.back (sl (sl (sl (sl sr)))) (OkE.imp O ?_))))))))
 exact cN (S:=S) (x:=(x.den*y.den)) (args:=[(DM g2),(DM g3)]) call129 (λw hw=>Re g2 g3 (by first|omega|(simp only [Int.natAbs_neg];omega)) (by first|omega|(simp only [Int.natAbs_neg];omega)) w (Br hw 1 O lg2) (Br hw 0 O lg3)) O O O λg4 lg4=>OkE.back (sl (sl (sl (sl (sl sr))))) (OkE.imp O (cF (S:=S) (x:=(x*y)) (args:=[(aG (Fw g1)),(DM g4)]) call105 (λw hw=>(Am.cast (T:=λi=>FX i) (Iq x y) (OB g1 g4 Z Z h0xy w (Br hw 3 O lg1) (Br hw 0 O lg4)))) O O O λg5 lg5=>OkE.back (sl (sl (sl (sl (sl (sl (sl sr))))))) (OkE.imp O (F2 6 (off:=0) (vs:=EB g5) (cs':=EB g5) (AP O) O sizeOf97 O (OkE.back (sl (sl (sl (sl (sl (sl (sl sr))))))) (OkE.nil (OkQ.subF (sL [4] O) (OkQ.then_ (AE.ret (AV O (BP (i:=6) (cs:=EB g5) O O isAgg97 sizeOf97 O) (λw hw=>G9 (a:=(g5:FX (x*y))) hw (Br hw 0 O lg5) O)))))))))))
theorem Ym (a b:Rat):Sz (a/b)<=Sz a+Sz b:=by
 by_cases h:b=0
 ·subst h;rw [Rat.div_def,Rat.inv_zero,Rat.mul_zero];have h1:=PR a;exact Nat.le_trans (show Sz (0:Rat)<=1 by decide +kernel) Z
 ·exact QV h
theorem K_  :Instr.fill ([(0,2),(2,1)].toArray[·]?) ([(Value.bool false),(Value.slice none 0 0),(Value.slice none 0 0)]).toArray []=some ([(Value.bool false),(Value.slice none 0 0),(Value.slice none 0 0)]).toArray:=by kernel_rfl
theorem Yg {x y:Rat} (a:FX x) (b:FX y) (hs:Sz x+Sz y<=16777216) (w:World) {S:Nat->Prop} (ha:Ro S w a) (hb:Ro S w b)  :Calls prog 87 #[(aG (EB a)),(aG (EB b))] w (Am (FX (x/y)) S w):=by
 have s0:=D_ x
 have s1:=Dd x
 have s2:=Hy x
 have s3:=D_ y
 have s4:=Dd y
 have s5:=Hy y
 have s6:=EI x y
 have s7:=EI y x
 have s8:=Ko x y
 have s9:=Kf x y
 have s10:=Gu (x.num*((y.den:Nat):Int)) (y.num*((x.den:Nat):Int))
 have h0x:=x.den_nz
 have h0y:=y.den_nz
 have h0xy:=Nat.mul_ne_zero h0x h0y
 have la:=Dk (W:=w) ha
 have lb:=Dk (W:=w) hb
 refine An (args:=[(aG (EB a)),(aG (EB b))]) (L:=[FF a.z.n,FF a.m,FF b.z.n,FF b.m]) func87 O O (Ad O) (aY ha (aY hb BA)) (AE.subF (sL [0,1] O) (q4 (Ca (cs:=EB a) O λb1=>Ca (cs:=EB b) O λb2=>al SI O λb3=>q6 (sL [2,3,4] O) (q4 (BF 1 VA O (DS call103 (λw hw=>VX b w (Br hw 5 O lb)) O (AJ (BQ (c:=(decide (y.num.sign=(0:Int)))) O O O) O (AC.nil ?_))))))))
 refine OkQ.subF (sL [2,3,4,7] O) (OkQ.then_ ?_)
 refine AE.cond O (λhc0=>?_) (λhc0=>?_)
 ·replace hc0:=of_decide_eq_true hc0
  exact q4 (AJ (v:=(aG ([(Value.bool false),(Value.slice none 0 0),(Value.slice none 0 0)]))) (AY (zs:=[(Value.bool false),(Value.slice none 0 0),(Value.slice none 0 0)]) (vs:=[(Value.bool false),(Value.slice none 0 0),(Value.slice none 0 0)]) (pv:=[]) (places:=[(0,2),(2,1)]) zeroValue97 underlying97 (λw=>by simp [sizeOf93,sizeOf95]) O (K_ )) O (BN O sizeOf97 O (AC.nil (OkQ.subF (sL [2,3,4] O) (OkQ.then_ (AE.ret (OkQ.then_ret (AV O (BP (i:=0) (cs:=[(Value.bool false),(Value.slice none 0 0),(Value.slice none 0 0)]) O O isAgg97 sizeOf97 O) (λw hw=>(by rw [<-WT (a:=x) hc0];exact G9 (a:=FX.zero) hw (d9 (eA Zu) Zu) O))))))))))
 ·replace hc0:=of_decide_eq_false hc0
  have hy:y≠0:=λe=>hc0 (by rw [e];rfl)
  have hi:=Pv hy
  have hyn:y.num.natAbs≠0:=λe=>hy (Rat.num_eq_zero.1 Z)
  refine AE.skip (q1 (Ck [(0,true),(1,true),(2,true),(3,true),(4,true),(7,true),(8,true),(9,true),(5,false),(6,false),(10,false),(11,false),(12,false)] (sl sr) (G6 1 VA O (Ao (v:=(pP b2 0)) O (AB O underlying97 O sizeOf95 O) (Ao (v:=(pP b2 0)) O (AB O underlying95 O sizeOf4 O) (Bk 0 (Value.bool (decide (y.num<0))) PM O (G6 0 VA O (Ao (v:=(pP b2 0)) O (AB O underlying97 O sizeOf95 O) (Ao (v:=(pP b2 1)) O (AB O underlying95 O sizeOf93 O) (Bk 0 (DM b.z.n) PQ O (OkE.imp O ?_)))))))))))
  refine cN (S:=S) (x:=y.den) (args:=[(aG (EB b))]) call107 (λw hw=>Nb b Z w (Br hw 5 O lb)) O O O λg1 lg1=>OkE.back (sl (sl sr)) (OkE.imp O (cZ (S:=S) (x:=(E_ (decide (y.num<0)) y.den)) (args:=[(Value.bool (decide (y.num<0))),(DM g1)]) call106 (λw hw=>GK (decide (y.num<0)) g1 w (Br hw 0 O lg1)) O O O λg2 lg2=>OkE.back (sl (sl (sl sr))) (OkE.imp O (cF (S:=S) (x:=(y⁻¹)) (args:=[(aG (Fw g2)),(DM b.z.n)]) call105 (λw hw=>(Am.cast (T:=λi=>FX i) (du hy) (OB g2 b.z.n (by rw [B5];omega) Z hyn w (Br hw 0 O lg2) (aX (a_ (Br hw 7 O lb)))))) O O O λg3 lg3=>OkE.back (sl (sl (sl (sl (sl sr))))) (OkE.imp O ?_)))))
  have hz1:=P7 x (y⁻¹)
  exact cF (S:=S) (x:=(x/y)) (args:=[(aG (EB a)),(aG (EB g3))]) call104 (λw hw=>(Am.cast (T:=λi=>FX i) Yp (XD a g3 (by (try simp only [Qb]);omega) w (Br hw 7 O la) (Br hw 0 O lg3)))) O O O λg4 lg4=>OkE.back (sl (sl (sl (sl (sl (sl (sl sr))))))) (OkE.imp O (F2 6 (off:=0) (vs:=EB g4) (cs':=EB g4) (AP O) O sizeOf97 O (OkE.back (sl (sl (sl (sl (sl (sl (sl sr))))))) (OkE.nil (OkQ.subF (sL [3,4] O) (OkQ.then_ (AE.ret (AV O (BP (i:=6) (cs:=EB g4) O O isAgg97 sizeOf97 O) (λw hw=>G9 (a:=(g4:FX (x/y))) hw (Br hw 0 O lg4) O)))))))))
theorem ZP (n d:Int) (h1:-9223372036854775808<=n) (h2:n<9223372036854775808) (h3:-9223372036854775808<=d) (h4:d<9223372036854775808) (w:World) {S:Nat->Prop}  :Calls prog 64 #[(vI n),(vI d)] w (Am (FX (((n:Int):Rat)/((d:Int):Rat))) S w):=by
 have s1:=Ia h1 h2
 have s2:=Ia h3 h4
 refine Aq (args:=[(vI n),(vI d)]) func64 O O (Ad O) (AE.subF (sL [0,1] O) (q4 (al SI O λb1=>AC.nil (q2 (AM O (cF (S:=S) (x:=((n:Int):Rat)) (args:=[(vI n)]) call88 (λw hw=>Qm n Z Z w) O O O λg1 lg1=>AM O (cF (S:=S) (x:=((d:Int):Rat)) (args:=[(vI d)]) call88 (λw hw=>Qm d Z Z w) O O O λg2 lg2=>?_)))))))
 have hz1:=Ym ((n:Int):Rat) ((d:Int):Rat)
 exact cF (S:=S) (x:=(((n:Int):Rat)/((d:Int):Rat))) (args:=[(aG (EB g1)),(aG (EB g2))]) call87 (λw hw=>Yg g1 g2 (by (try simp only [Qb]);omega) w (Br hw 2 O lg1) (Br hw 0 O lg2)) O O O λg3 lg3=>F2 6 (off:=0) (vs:=EB g3) (cs':=EB g3) (AP O) O sizeOf97 O (AC.nil (OkQ.subF (sL [4] O) (OkQ.then_ (AE.ret (AV O (BP (i:=6) (cs:=EB g3) O O isAgg97 sizeOf97 O) (λw hw=>G9 (a:=(g3:FX (((n:Int):Rat)/((d:Int):Rat)))) hw (Br hw 0 O lg3) O))))))
end
section
set_option maxRecDepth 100000
theorem RF (z:QD) (h:z.ok) (w:World) {S:Nat->Prop}  :Calls prog 49 #[(aG (Qj z))] w (Am (FX (Jr z)) S w):=by
 obtain ⟨h1,h2,h3⟩:=h
 refine Aq (args:=[(aG (Qj z))]) func49 O O (Ad O) (AE.subF (sL [0] O) (q4 (Ca (cs:=Qj z) O λb1=>al SI O λb2=>q3 (sL [1,2] O) (AJ (v:=(pP b1 0)) (AB O underlying53 O sizeOf2 O) O (BE 1 (vI z.n) LO O (AJ (v:=(pP b1 1)) (AB O underlying53 O sizeOf50 O) O (BE 1 (vK .u32 z.d) a8 O (AJ (FL (c:=((max z.d 1:Nat):Int)) O O (by split<;>omega)) O (AJ (Ax (c:=((max z.d 1:Nat):Int)) O underlying50 underlying2 (CI Z)) O ?_)))))))))
 exact cF (S:=S) (x:=(Jr z)) (args:=[(vI z.n),(vN (max z.d 1))]) call64 (λw hw=>(Am.cast (T:=λi=>FX i) O (ZP z.n ((max z.d 1:Nat):Int) Z Z Z Z w))) O O O λg1 lg1=>Me O sizeOf97 O (AC.nil (OkQ.subF (sL [2] O) (OkQ.then_ (AE.ret (AV O (BP (i:=2) (cs:=EB g1) O O isAgg97 sizeOf97 O) (λw hw=>G9 (a:=(g1:FX (Jr z))) hw (Br hw 0 O lg1) O))))))
theorem FZ {r0:Rat} (x0:FX r0) {r1:Rat} (x1:FX r1):Instr.fill ([(0,3),(3,3)].toArray[·]?) ([(Value.bool false),(Value.slice none 0 0),(Value.slice none 0 0),(Value.bool false),(Value.slice none 0 0),(Value.slice none 0 0)]).toArray [(0,.agg (EB x0).toArray),(1,.agg (EB x1).toArray)]=some (EB x0++EB x1).toArray:=by kernel_rfl
theorem XW (p:PD) (h:p.ok) (w:World) {S:Nat->Prop}  :Calls prog 28 #[(aG (aO p))] w (Am (PX (EQ p)) S w):=by
 have h1:=h.1
 have h2:=h.2
 refine Aq (args:=[(aG (aO p))]) func28 O O (Ad O) (AE.subF (sL [0] O) (q4 (Ca (cs:=aO p) O λb1=>al cv O λb2=>q6 (sL [1,2] O) (Ck [(0,true),(1,true),(3,true),(4,true),(2,false),(5,false),(6,true),(7,false)] (sl sr) (Ao (v:=(pP b1 0)) O (AB O underlying55 O sizeOf53 O) (Tu 0 (Qj p.x) X8 O (Ao (v:=(pP b1 2)) O (AB O underlying55 O sizeOf53 O) (Tu 0 (Qj p.y) X8 O (OkE.imp O ?_)))))))))
 refine cF (S:=S) (x:=(Jr p.x)) (args:=[(aG (Qj p.x))]) call49 (λw hw=>RF p.x (by assumption) w) O O O λg1 lg1=>OkE.back (sl (sl (sl sr))) (OkE.imp O (cF (S:=S) (x:=(Jr p.y)) (args:=[(aG (Qj p.y))]) call49 (λw hw=>RF p.y (by assumption) w) O O O λg2 lg2=>OkE.back (sl (sl (sl (sl (sl sr))))) (Ao (v:=(aG (EB g1++EB g2))) O (AY (zs:=[(Value.bool false),(Value.slice none 0 0),(Value.slice none 0 0),(Value.bool false),(Value.slice none 0 0),(Value.slice none 0 0)]) (vs:=EB g1++EB g2) (pv:=[(0,(aG (EB g1))),(1,(aG (EB g2)))]) (places:=[(0,3),(3,3)]) zeroValue99 underlying99 (λw=>by simp [sizeOf97]) O (FZ g1 g2)) (OkE.imp O (F2 4 (off:=0) (vs:=EB g1++EB g2) (cs':=EB g1++EB g2) (AP O) O sizeOf99 O (OkE.back (sl (sl (sl (sl (sl sr))))) (OkE.nil (OkQ.subF (sL [2] O) (OkQ.then_ ?_)))))))))
 exact AE.ret (AV O (BP (i:=4) (cs:=EB g1++EB g2) O O isAgg99 sizeOf99 O) (λw hw=>G9 (a:=((PX.mk g1 g2:PX (⟨Jr p.x,Jr p.y⟩:Pt)):PX (EQ p))) hw (ee (Br hw 2 O lg1) (Br hw 0 O lg2)) O))
end
end Go.Proofs.YtpgncndhhhllfaaGreat
