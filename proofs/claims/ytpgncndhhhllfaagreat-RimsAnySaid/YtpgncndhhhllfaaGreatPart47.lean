import Derived.ProofKit
import Derived.LaidMore
import Derived.Carry
import Derived.Stop.Joined
import Derived.SevenTiedAt
import Derived.OpenShut
import Derived.Test.YtpgncndhhhllfaaGreatPart03
import Derived.Test.YtpgncndhhhllfaaGreatPart16
import Derived.Test.YtpgncndhhhllfaaGreatPart39
import Derived.Test.YtpgncndhhhllfaaGreatPart43
import Derived.Test.YtpgncndhhhllfaaGreatPart45
import Derived.Test.YtpgncndhhhllfaaGreatPart46
namespace Go.Proofs.YtpgncndhhhllfaaGreat
open Go Go.RowKit Go.Proofs.Tryz
set_option linter.unusedVariables false
set_option linter.unusedSimpArgs false
section
set_option maxRecDepth 100000
theorem Uj {N K N2 K2:Nat} {zs:List Z3} (x:RQ N K zs) (y:RQ N2 K2 zs) (hl:zs.length<=1000000) (h1:E5 N zs=false) (h2:E5 N2 zs=false) (w:World) {S:Nat->Prop} (hx:Ro S w x) (hy:Ro S w y):Calls prog 7 #[(aG (Ge x)),(aG (Ge y))] w (Ak w (Value.bool true)):=by
 have hu:∀(S:Nat->Prop) (w:World),Ro S w x.ru->Calls prog 35 #[(aG (Bt x.ru))] w (Ak w (Value.bool false)):=λS w h=>by
  have h9:=Tx x Z w (S:=S) (λy hy=>h y hy)
  rw [h1] at h9;exact h9
 have hr:∀(S:Nat->Prop) (w:World),Ro S w y.ru->Calls prog 39 #[(aG (Bt y.ru))] w (Ak w (Value.bool false)):=λS w h=>by
  have h9:=Tr y hl w (S:=S) (λy hy=>h y hy)
  rw [h2] at h9;exact h9
 have hp:∀(S:Nat->Prop) (w:World),Ro S w y.ru->Calls prog 18 #[(aG (Bt y.ru))] w (Ak w (Value.bool false)):=λS w h=>Td y.ru hr w h
 exact Gv x.ru y.ru (ws:=[]) (ls:=[]) (bb:=false) (ez:=0) (Q:=QN) (λl n l' n' h h'=>⟨h.1.trans h'.1.symm,h.2.trans h'.2.symm⟩) (λl n h=>by rw [h.1,h.2];exact ⟨Nat.zero_le _,Nat.zero_le _⟩) (Nat.zero_le _) (Nat.zero_le _) ⟨by decide,by decide⟩
  (λS w h=>(Xo x.ru hu w h).mono λe w' h9=>XO h9) (λS w h=>(Mf y.ru hp w h).mono λe w' h9=>Xc h9) (λS w h=>Vm x.ru hu w h) (λS w h=>hp S w h)
  (λS w h=>(W4 x.ru hu w h).mono λe w' h9=>PY h9) (λS w h=>(NI y.ru hp w h).mono λe w' h9=>Uk h9)
  (λS w h=>(P9 x.ru hu w h).mono λe w' h9=>X4 h9) (λS w h=>(VJ y.ru hr w h).mono λe w' h9=>ZS h9)
  (λS w h=>Qw x.ru hu w h) (λS w h=>TX y.ru hr w h) (λl n hq S w h=>by obtain ⟨_,rfl⟩:=hq;exact WV x.ru hu w h) w (ZT hx) (ZT hy)
theorem Sw {N:Nat} {ts ss vs:List T3} (x:RM N ts ss) (y:RM N ts vs) (hnb:A_ N ts=true) (hp:N<=4096) (htl:ts.length<=1000000) (w:World) {S:Nat->Prop} (hx:Ro S w x) (hy:Ro S w y):Calls prog 7 #[(aG (BN x)),(aG (BN y))] w (Ak w (Value.bool true)):=by
 have hwl:=KQ (ts:=ts)
 have hrl:=Hj (ts:=ts)
 have hel0:=H9 ts
 have hcl0:=GC (ts:=ts) (3*ts.length)
 have hez:EU ts=((B5 ts (3*ts.length)).length:Int)-(Bv ts).length+ts.length:=rfl
 have hQ:∀l n l' n',Hv ts l n->Hv ts l' n'->l=l'/\n=n':=λl n l' n' h h'=>⟨ZO h h',Se h h'⟩
 have hQn:∀l n,Hv ts l n->n<=1000000/\l.length<=1000000:=λl n h=>⟨Nat.le_trans h.nle htl,by rw [h.len];exact htl⟩
 have h7:∀(S:Nat->Prop) (w:World),Ro S w x.ru->Calls prog 22 #[(aG (Bt x.ru))] w (Al (XS (Hv ts)) S w):=λS w h=>by
  rcases Nat.eq_zero_or_pos ts.length with h0|h0
  ·exact (Ie x hnb h0 Z w (S:=S) (λy hy=>h y hy)).mono λe w' h9=>Yq h0 h9
  ·exact (Ik x hnb h0 Z htl w (S:=S) (λy hy=>h y hy)).mono λe w' h9=>ofPaD h9
 have h8:∀(S:Nat->Prop) (w:World),Ro S w y.ru->Calls prog 23 #[(aG (Bt y.ru))] w (Al (Xa (Hv ts)) S w):=λS w h=>(R5 y hnb htl Z w (S:=S) (λy hy=>h y hy)).mono λe w' h9=>Zn h9
 have h9:∀(S:Nat->Prop) (w:World),Ro S w x.ru->Calls prog 25 #[(aG (Bt x.ru))] w (Ak w (vI (EU ts))):=λS w h=>FG x hnb Z htl w (S:=S) (λy hy=>h y hy)
 have h10:∀(S:Nat->Prop) (w:World),Ro S w y.ru->Calls prog 26 #[(aG (Bt y.ru))] w (Ak w (vI (EU ts))):=λS w h=>Rz y hnb htl hp w (S:=S) (λy hy=>h y hy)
 have h11:∀(l:List Int) (n:Nat),Hv ts l n->∀(S:Nat->Prop) (w:World),Ro S w x.ru->Calls prog 27 #[(aG (Bt x.ru))] w (Ak w (vI (((n:Nat):Int)-EU ts))):=λl n q S w h=>by
  rcases Nat.eq_zero_or_pos ts.length with h0|h0
  ·rw [Se q (QY h0)];exact Mp x hnb h0 Z htl w (S:=S) (λy hy=>h y hy)
  ·exact Jw x l n q hnb h0 Z htl w (S:=S) (λy hy=>h y hy)
 have hpl:∀(S:Nat->Prop) (w:World),Ro S w x.ru->Calls prog 6 #[(aG (Bt x.ru))] w (Ak w (Value.bool (A_ N ts&&BV ts (3*ts.length)))):=λS w h=>Pk x Z htl w (S:=S) (λy hy=>h y hy)
 have hrp:∀(S:Nat->Prop) (w:World),Ro S w y.ru->Calls prog 18 #[(aG (Bt y.ru))] w (Ak w (Value.bool (Em ts ts.length))):=λS w h=>K_ y hnb htl Z w (S:=S) (λy hy=>h y hy)
 cases ho:BV ts (3*ts.length) with
 | true =>
  have hor:(A_ N ts&&BV ts (3*ts.length))=true:=by rw [hnb,ho];rfl
  rw [hor] at hpl
  rw [I4 ho _ (Nat.le_refl _)] at hrp
  have h5:∀(S:Nat->Prop) (w:World),Ro S w x.ru->Calls prog 20 #[(aG (Bt x.ru))] w (Al (XX (Hl ts)) S w):=λS w h=>by
   rcases Nat.eq_zero_or_pos (Ab ts).length with h0|h0
   ·have e:Hl ts=[]:=List.eq_nil_of_length_eq_zero (Nat.le_zero.1 (Ql (ts:=ts) (m:=0) Z))
    rw [e]
    exact (Nr x hor h0 Z htl w (S:=S) (λy hy=>h y hy)).mono λe w' h9=>PY h9
   ·exact Ib x hor h0 Z htl w (S:=S) (λy hy=>h y hy)
  exact Gv x.ru y.ru (ws:=Ab ts) (ls:=Hl ts) hQ hQn Z (Ql Z) Z (λS w h=>KH x hor Z htl w (S:=S) (λy hy=>h y hy)) (λS w h=>(by have k:=NM y hnb htl hp (I4 ho _ (Nat.le_refl _)) w (S:=S) (λy hy=>h y hy);rw [Pm hnb Z ho] at k;exact k)) hpl hrp h5 (λS w h=>R8 y hnb ho htl hp w (S:=S) (λy hy=>h y hy)) h7 h8 h9 h10 h11 w (W_ hx) (W_ hy)
 | false =>
  have hor:(A_ N ts&&BV ts (3*ts.length))=false:=by rw [hnb,ho];rfl
  have hpf:Em ts ts.length=false:=by
   cases h:Em ts ts.length with
   | false=>rfl
   | true=>rw [WD hnb h] at ho;cases ho
  rw [hor] at hpl
  rw [hpf] at hrp
  exact Gv x.ru y.ru (ws:=[]) (ls:=[]) hQ hQn (Nat.zero_le _) (Nat.zero_le _) Z (λS w h=>(Rb x hor Z htl w (S:=S) (λy hy=>h y hy)).mono λe w' h9=>XO h9) (λS w h=>(Mf y.ru hrp w h).mono λe w' h9=>Xc h9) hpl hrp
   (λS w h=>(Om x hor Z htl w (S:=S) (λy hy=>h y hy)).mono λe w' h9=>PY h9) (λS w h=>(NI y.ru hrp w h).mono λe w' h9=>Uk h9) h7 h8 h9 h10 h11 w (W_ hx) (W_ hy)
theorem Uh {N K N2 K2:Nat} {zs:List Z3} (x:RQ N K zs) (y:RQ N2 K2 zs) (hN:N2=N) (hp:N<=4096) (hl:zs.length<=1000000) (w:World) {S:Nat->Prop} (hx:Ro S w x) (hy:Ro S w y):Calls prog 7 #[(aG (Ge x)),(aG (Ge y))] w (Ak w (Value.bool true)):=by
 subst hN
 cases h:E5 N2 zs with
 | false=>exact Uj x y hl h h w hx hy
 | true =>
  obtain ⟨x',h1,h2,h3⟩:=UF x h
  obtain ⟨y',_,g2,g3⟩:=UF y h
  have:=Sw x' y' h1 hp (by rw [List.length_map];exact hl) w (h3 hx) (g3 hy)
  rw [h2,g2] at this
  exact this
set_option maxHeartbeats 1000000 in
theorem O1 (r:RW) (w:World) {S:Nat->Prop} (hr:Ro S w r):Calls prog 4 #[(aG (G8 r))] w (Ak w (Value.bool true)):=by
 have lr:=CV (W:=w) hr
 refine Ag (args:=[(aG (G8 r))]) (L:=[AJ r.a.p (rowsL Gj r.ds),AJ r.b.p (rowsL Bg r.ts),AJ r.c.p (rowsL Bg r.ss)]) func4 O O (AV O) (C4 hr Ao) (AE.subF (sL [0] O) (q4 (B0 (cs:=G8 r) O λb1=>AI O (q6 (sL [1,2] O) (AE.seq ?_)))))
 by_cases hgr:Ha r=true
 ·skip
  refine AE.region (BC 0 Wh O (Cc (args:=[(aG (G8 r))]) (v:=(Value.bool true)) call10 (λw hw=>(by have h9:=Mt r w (Bc hw 1 O lr);rw [hgr] at h9;exact h9)) O (AC.nil (OkQ.subF (sL [1,2,4] O) (OkQ.then_ (AE.cond_true O (q4 (ck' call9 (Jp) O (AI O (AC.nil (OkQ.subF (sL [1,2] O) ?_)))))))))))
  exact OkQ.then_ (AE.ret (OkQ.then_ret (AS O (AZ (v:=(Value.bool true)) O) (λw hw=>⟨rfl,hw.out⟩))))
 ·skip
  obtain ⟨hr1,hr2,hr3⟩:=VC (r:=r) (by simpa using hgr)
  refine AE.region (BC 0 Wh O (Cc (args:=[(aG (G8 r))]) (v:=(Value.bool false)) call10 (λw hw=>(by have h9:=Mt r w (Bc hw 1 O lr);rw [(show Ha r=false by simpa using hgr)] at h9;exact h9)) O (AC.nil (OkQ.subF (sL [1,2,4] O) (OkQ.then_ (AE.cond_false O (AE.skip (q1 (Cu [(0,true),(2,true),(1,false),(3,false),(4,false),(5,true),(6,false),(7,true),(8,true)] sr (Gx 0 Wh O (Gx 0 Wh O ?_)))))))))))
  refine OkE.imp O (AC.callR (S:=S) (α:=MZ r.ps r.ts r.ss) (args:=[(aG (G8 r))]) call11 (λw hw=>Ul r hr1 hr2 hr3 w (Bc hw 1 O lr)) O O O λm lm=>OkE.back (sl (sl (sl sr))) (OkE.imp O (AC.callR (S:=S) (α:=Sd r.ps r.ts r.ss) (args:=[(aG (G8 r))]) call12 (λw hw=>Wo r hr1 hr2 hr3 w (Bc hw 4 O lr)) O O O λo lo=>AC.permR (show List.Perm _ (AJ o.a.p (rowsL QX o.rs)::AJ o.b.p (rowsL Bg r.ts)::AJ o.c.p (rowsL Bg r.ss)::AJ m.a.p (rowsL CG r.ps)::AJ m.b.p (rowsL Bg r.ts)::AJ m.c.p (rowsL Bg r.ss)::Ah b1 44 (G8 r)::AJ r.a.p (rowsL Gj r.ds)::AJ r.b.p (rowsL Bg r.ts)::AJ r.c.p (rowsL Bg r.ss)::Kn o.rs) from OR [AJ o.a.p (rowsL QX o.rs),AJ o.b.p (rowsL Bg r.ts),AJ o.c.p (rowsL Bg r.ss)] (Kn o.rs) [AJ m.a.p (rowsL CG r.ps),AJ m.b.p (rowsL Bg r.ts),AJ m.c.p (rowsL Bg r.ss),Ah b1 44 (G8 r),AJ r.a.p (rowsL Gj r.ds),AJ r.b.p (rowsL Bg r.ts),AJ r.c.p (rowsL Bg r.ss)]) (OkE.back (sl (sl (sl (sl (sl (sl (sk (sk (sk (sk (List.nil_sublist _))))))))))) (OkE.imp O (Cc call7 (λw hw=>Uh (S:=bA) m.rq o.rq o.len (by rw [r.pl];omega) Z w (a_ (ba (Bc (S:=S) hw 3 O lm))) (bX (aV hw 0 O (λz hz=>List.mem_append_right [AJ o.a.p (rowsL QX o.rs),AJ o.b.p (rowsL Bg r.ts),AJ o.c.p (rowsL Bg r.ss),AJ m.a.p (rowsL CG r.ps),AJ m.b.p (rowsL Bg r.ts),AJ m.c.p (rowsL Bg r.ss),Ah b1 44 (G8 r),AJ r.a.p (rowsL Gj r.ds),AJ r.b.p (rowsL Bg r.ts),AJ r.c.p (rowsL Bg r.ss)] hz)))) O (OkE.back (sl (sl (sl (sl (sl (sl (sk (sk (sk (sk (List.nil_sublist _))))))))))) (BU O (OkE.imp O ?_)))))))))
  exact AC.call (v:=(Value.bool true)) (AA O) (Aw (args:=[]) O O call9) (λw hw=>Jp w) O (AV O) (OkE.back (sl (sl (sl (sl (sl (sl (sk (sk (sk (sk (List.nil_sublist _))))))))))) (Av (v:=(Value.bool true)) O (AR O O) (pS' O (OkE.nil (OkQ.subF (sL [1,2] O) (OkQ.then_ (AE.ret (AS O (AZ (v:=(Value.bool true)) O) (λw hw=>⟨rfl,hw.out⟩)))))))))
end
section
open Go Go.RowKit Go.ChangeShapes Go.WideShapes Go.ChangeAt
theorem V_:laidOutB Tryz.prog=true:=by kernel_rfl
theorem U8:ownKnob Tryz.prog.godebug=none:=by kernel_rfl
theorem Gk {H:Type} {enc:TypeId×Value->H} {P:Program} (hl:laidOutB P=true) {W W':World} {sp:Nat->Bool} (hb:F0 W.heap.size W W') :
    ∀{ts:List TypeId} {vs:List Value} {ds:List (DataW H)} {ps:List MemPlace},(∀t∈ts,P.readableRec t=true/\t<P.types.size)->DataW.TrodAll enc P W 0 (λ_=>true) true ts vs ds ps ->
      (∀p∈ps,p.block<W.heap.size)->(∀p∈ps,sp p.block=true)->DataW.TrodAll enc P W' 0 sp true ts vs ds ps
  | [],_,_,_,_,h,_,_=>by
    obtain ⟨rfl,rfl,rfl⟩:=trodAll_nil h
    exact trodAll_mk0
  | t::ts,_,_,_,hr,h,hlt,hs=>by
    obtain ⟨v,vs1,d,ds1,a,b,rfl,rfl,rfl,h1,h2⟩:=trodAll_cons h
    exact ⟨a,b,WideElems.Trod_stays hl (hr t (by simp)).1 (hr t (by simp)).2 h1 (λx hx=>hb.same (hlt x (by simp [hx]))) (λx hx=>hs x (by simp [hx])),
      Gk hl hb (λu hu=>hr u (by simp [hu])) h2 (λp hp=>hlt p (by simp [hp])) (λp hp=>hs p (by simp [hp])),rfl⟩
theorem Tl {H:Type} {enc:TypeId×Value->H} {P:Program} {f:Func} {s:ChangeSpec} {apart fresh handsOn again:Bool} {W W':World} {args:Array Value} {ds:List (DataW H)} {Cg:List MemPlace} {tb:TypeId}
    (hW:DataW.Whole enc P f.params.toList s.vars apart W args.toList ds [] Cg) (hv:s.vars=[]) (hfn:s.fn H ds=({ results:=[.lit (.bool true)],args:=ds }:Left H))
    (hrt:f.resultTypes=#[tb]) (hu:P.underlying tb=some .bool) (hb:F0 W.heap.size W W') (hl:laidOutB P=true) (hr:∀t∈f.params.toList,P.readableRec t=true/\t<P.types.size) :
    s.post enc P f apart fresh handsOn again W args (.bool true) W':=by
  have hlt:∀p∈Cg,p.block<W.heap.size:=λp hp=>hW.lt p hp
  have hW2:=hW
  obtain ⟨pa,q,hA,hV,he,hz,hn⟩:=hW2
  rw [hv] at hV
  obtain ⟨_,rfl⟩:=trodVars_none hV
  simp only [List.append_nil] at he
  subst he
  have hres:∀(b:Nat) (sp:Nat->Bool) (hd:Bool),DataW.TrodAll enc P W' b sp hd f.resultTypes.toList ((Value.bool true).resultList f.resultTypes.size) (s.fn H (ds++[])).results []:=λb sp hd=>by
    rw [hrt,List.append_nil,hfn]
    exact trodAll_mk1 (shut_bool hu _)
  have hargs:∀sp:Nat->Bool,(∀p∈Cg,sp p.block=true)->DataW.TrodAll enc P W' 0 sp true f.params.toList args.toList (s.fn H (ds++[])).args Cg:=λsp hs=>by
    rw [List.append_nil,hfn]
    exact Gk hl hb hr hA hlt hs
  have hvars:∀sp:Nat->Bool,DataW.TrodVars enc P W' sp s.vars (s.fn H (ds++[])).vars []:=λsp=>by
    rw [List.append_nil,hfn,hv];rfl
  have hold:∀p∈Cg,(λb=>decide (b<W.heap.size)) p.block=true:=λp hp=>by simpa using hlt p hp
  refine ⟨ds,[],Cg,[],Cg,[],hW,hres _ _ _,hargs _ hold,hvars _,World.keptBut_mono (λp hp=>⟨hp,Or.inr (by simpa using hp)⟩) (hb.frame (·∈Cg)),λ_=>⟨?_,_,_,([]++Cg)++[],⟨[]++Cg,[],trodAll_append (hargs _ (λ_ _=>rfl)) (hres _ _ _),hvars _,rfl,?_,?_⟩,?_⟩⟩
  · exact ok_one hrt O (okWide_bool_mk hu _)
  · intro b off hp
    have hp':MemPlace.cell b off∈Cg:=by simpa using hp
    rw [hb.frozen (hlt _ hp')]
    exact hz b off hp'
  · intro ha
    have:=hn ha
    simpa using this
  · intro p hp _
    simpa using hp
end
section
open Go Go.RowKit Go.WideShapes
section
variable {P:Program} {w:World} {r:Reach} {base:Nat}
theorem OU {u e:TypeId} {v:Value} (hu:P.underlying u=some (.slice e)) (h:Cell.okWide P w r base u v) :
    v=.slice none 0 0\/∃a len cap,v=.slice (some a) len cap/\len<=cap/\a.spot=none/\∃cur T fr,w.heap[a.block]?=some (.cells cur T fr):=by
  simp only [Cell.okWide,hu] at h
  unfold Cell.ok at h
  rw [hu] at h
  cases v with
  | slice p len cap =>
    cases p with
    | none =>
      left
      split at h<;>simp_all
    | some a =>
      right
      have h':len<=cap/\(cap:Int)<=IntKind.i64.max/\w.has P r base a e cap:=h
      obtain ⟨h1,_,_,h2,row,cells,h3,_⟩:=h'
      refine ⟨a,len,cap,rfl,h1,h2,?_⟩
      unfold World.shape? at h3
      split at h3
      · rename_i cur T fr e;exact ⟨cur,T,fr,e⟩
      · cases h3
  | _=>simp at h
end
end
section
open Go Go.RowKit Go.WideShapes
section
variable {H:Type} {enc:TypeId×Value->H} {P:Program} {w:World} {base fuel:Nat} {sp:Nat->Bool} {hd:Bool} {t:TypeId} {cs:List Value} {x:DataW H×List MemPlace}
theorem EE {fs:Array Field} {i u o z:Nat} (ht:P.underlying t=some (.struct fs)) (hf:∃f,fs[i]?=some f/\f.type=u/\f.offset=o) (hz:P.cellsOf u=z) (h:DataW.trod enc P w base sp hd fuel t cs=some x) :
    ∃m y,DataW.trod enc P w base sp hd m u ((cs.drop o).take z)=some y:=by
  obtain ⟨xs,n,_,_,_,hxl,hx⟩:=DataW.trod_struct ht h
  obtain ⟨f,h1,rfl,rfl⟩:=hf
  have h2:=hx i f h1
  have hlt:i<xs.length:=by
    rw [hxl]
    rcases Nat.lt_or_ge i fs.size with k|k
    · exact k
    · rw [Array.getElem?_eq_none k] at h1;cases h1
  rw [List.getElem?_eq_getElem hlt,hz] at h2
  exact ⟨n,_,h2⟩
theorem Ja {fs:Array Field} {z:Nat} (ht:P.underlying t=some (.struct fs)) (hz:P.cellsOf t=z) (h:DataW.trod enc P w base sp hd fuel t cs=some x):cs.length=z:=by
  obtain ⟨xs,n,_,_,hl,_,_⟩:=DataW.trod_struct ht h
  rw [hl,hz]
theorem GB {fs:Array Field} {k:IntKind} {i u o:Nat} (hu:P.underlying u=some (.int k)) (ht:P.underlying t=some (.struct fs)) (hf:∃f,fs[i]?=some f/\f.type=u/\f.offset=o) (hz:P.cellsOf u=1) (h:DataW.trod enc P w base sp hd fuel t cs=some x) :
    ∃n,(cs.drop o).take 1=[.int k n]/\(Lit.int k n).wf=true:=by
  obtain ⟨m,y,h1⟩:=EE ht hf hz h
  obtain ⟨n,h2,_,h3⟩:=DataW.trod_int hu h1
  exact ⟨n,h2,h3⟩
theorem Sr {k:IntKind} {n:Int} (h:(Lit.int k n).wf=true):k.has n:=by
  have h9:(decide (k.min<=n)&&decide (n<=k.max))=true:=h
  rw [Bool.and_eq_true,decide_eq_true_eq,decide_eq_true_eq] at h9
  exact h9
theorem Yl {e:TypeId} (ht:P.underlying t=some (.array 3 e)) (he:P.underlying e=some (.int .i64)) (h1e:P.cellsOf e=1) (h3:P.cellsOf t=3) (h:DataW.trod enc P w base sp hd fuel t cs=some x):∃a:Z3,cs=Bg a:=by
  obtain ⟨xs,m,_,_,hl,hxl,hx⟩:=DataW.trod_array ht h
  rw [h3] at hl
  have g:∀i,i<3->∃n,(cs.drop i).take 1=[.int .i64 n]:=λi hi=>by
    have h2:=hx i hi
    rw [List.getElem?_eq_getElem Z,h1e,Nat.mul_one] at h2
    obtain ⟨n,h2,_,_⟩:=DataW.trod_int he h2
    exact ⟨n,h2⟩
  obtain ⟨a,ha⟩:=g 0 (by decide)
  obtain ⟨b,hb⟩:=g 1 (by decide)
  obtain ⟨c,hc⟩:=g 2 (by decide)
  match cs,hl with
  | [c0,c1,c2],_ =>
    obtain rfl:c0=.int .i64 a:=by simpa using ha
    obtain rfl:c1=.int .i64 b:=by simpa using hb
    obtain rfl:c2=.int .i64 c:=by simpa using hc
    exact ⟨(a,b,c),rfl⟩
theorem YI {fs:Array Field} {e:TypeId} (ht:P.underlying t=some (.struct fs)) (f0:∃f,fs[0]?=some f/\f.type=e/\f.offset=0) (f1:∃f,fs[1]?=some f/\f.type=e/\f.offset=1) (f2:∃f,fs[2]?=some f/\f.type=e/\f.offset=2)
    (he:P.underlying e=some (.int .i64)) (h1e:P.cellsOf e=1) (h3:P.cellsOf t=3) (h:DataW.trod enc P w base sp hd fuel t cs=some x):∃a:Z3,cs=Bg a:=by
  have hl:=Ja ht h3 h
  obtain ⟨a,ha,_⟩:=GB he ht f0 h1e h
  obtain ⟨b,hb,_⟩:=GB he ht f1 h1e h
  obtain ⟨c,hc,_⟩:=GB he ht f2 h1e h
  match cs,hl with
  | [c0,c1,c2],_ =>
    obtain rfl:c0=.int .i64 a:=by simpa using ha
    obtain rfl:c1=.int .i64 b:=by simpa using hb
    obtain rfl:c2=.int .i64 c:=by simpa using hc
    exact ⟨(a,b,c),rfl⟩
theorem XN {fs:Array Field} {e u:TypeId} (ht:P.underlying t=some (.struct fs)) (f0:∃f,fs[0]?=some f/\f.type=e/\f.offset=0) (f1:∃f,fs[1]?=some f/\f.type=u/\f.offset=1)
    (he:P.underlying e=some (.int .i64)) (h1e:P.cellsOf e=1) (hu:P.underlying u=some (.int .u32)) (h1u:P.cellsOf u=1) (h2:P.cellsOf t=2) (h:DataW.trod enc P w base sp hd fuel t cs=some x):∃q:QD,q.ok/\cs=HZ q:=by
  have hl:=Ja ht h2 h
  obtain ⟨a,ha,wa⟩:=GB he ht f0 h1e h
  obtain ⟨b,hb,wb⟩:=GB hu ht f1 h1u h
  match cs,hl with
  | [c0,c1],_ =>
    obtain rfl:c0=.int .i64 a:=by simpa using ha
    obtain rfl:c1=.int .u32 b:=by simpa using hb
    have k1:=WF (Sr wa)
    have k2:=Ws (Sr wb)
    refine ⟨⟨a,b.toNat⟩,⟨k1.1,k1.2,by show b.toNat<_;omega⟩,?_⟩
    simp only [HZ]
    rw [Int.toNat_of_nonneg k2.1]
theorem Zk {fs gs:Array Field} {q e u:TypeId} (ht:P.underlying t=some (.struct fs)) (f0:∃f,fs[0]?=some f/\f.type=q/\f.offset=0) (f1:∃f,fs[1]?=some f/\f.type=q/\f.offset=2) (hq:P.underlying q=some (.struct gs)) (g0:∃f,gs[0]?=some f/\f.type=e/\f.offset=0) (g1:∃f,gs[1]?=some f/\f.type=u/\f.offset=1)
    (he:P.underlying e=some (.int .i64)) (h1e:P.cellsOf e=1) (hu:P.underlying u=some (.int .u32)) (h1u:P.cellsOf u=1) (h2:P.cellsOf q=2) (h4:P.cellsOf t=4) (h:DataW.trod enc P w base sp hd fuel t cs=some x):∃p:PD,p.ok/\cs=Gj p:=by
  have hl:=Ja ht h4 h
  obtain ⟨m,y,k1⟩:=EE ht f0 h2 h
  obtain ⟨m2,y2,k2⟩:=EE ht f1 h2 h
  obtain ⟨a,ha,ea⟩:=XN hq g0 g1 he h1e hu h1u h2 k1
  obtain ⟨b,hb,eb⟩:=XN hq g0 g1 he h1e hu h1u h2 k2
  refine ⟨⟨a,b⟩,⟨ha,hb⟩,?_⟩
  show cs=HZ a++HZ b
  rw [<-ea,<-eb,List.drop_zero,List.take_of_length_le (l:=cs.drop 2) (by simp [hl]),List.take_append_drop]
theorem P1 {α:Type} {en:α->List Value} {ok:α->Prop} {z:Nat} {L:List Value}:∀len,(∀i,i<len->∃a,ok a/\(L.drop (i*z)).take z=en a)->∃l:List α,l.length=len/\(∀a∈l,ok a)/\L.take (len*z)=rowsL en l
  | 0,_=>⟨[],rfl,(λa h=>by cases h),by simp [rowsL]⟩
  | n+1,h=>by
    obtain ⟨l,h1,h2,h3⟩:=P1 n λi hi=>h i Z
    obtain ⟨a,h4,h5⟩:=h n Z
    refine ⟨l++[a],by simp [h1],λy hy=>?_,?_⟩
    · rcases List.mem_append.1 hy with hy|hy
      · exact h2 y hy
      · rcases List.mem_singleton.1 hy with rfl;exact h4
    · rw [Nat.succ_mul,List.take_add,h3,h5,Bk];simp [rowsL]
theorem IQ {α:Type} {en:α->List Value} {ok:α->Prop} {W:World} {r:Reach} {z b0:Nat} {ts e:TypeId} {c:Value} {y:DataW H×List MemPlace} (hts:P.underlying ts=some (.slice e)) (hz:P.cellsOf e=z) (hlen:∀a,(en a).length=z)
    (hdec:∀fuel cs x,DataW.trod enc P W 0 sp hd fuel e cs=some x->∃a:α,ok a/\cs=en a) (hok:Cell.okWide P W r b0 ts c) (hT:DataW.trod enc P W 0 sp hd fuel ts [c]=some y) :
    ∃(l:List α) (p:Option Addr) (cap:Nat),c=.slice p l.length cap/\(∀a∈l,ok a)/\Ar p l.length cap/\Holds W (AJ p (rowsL en l)):=by
  rcases OU hts hok with rfl|⟨a,len,cap,rfl,hlc,hsp,cur,T,fr,hcur⟩
  · exact ⟨[],none,0,rfl,(λx h=>by cases h),⟨λ_=>⟨rfl,rfl⟩,(λa e=>by cases e),Nat.le_refl _⟩,λb e=>by cases e⟩
  · rcases DataW.trod_slice hts hT with ⟨h2,_⟩|⟨a',len',cap',elems,rest,n',_,h2,_,_,_,_,hel,hes,_⟩
    · cases h2
    · obtain ⟨rfl,rfl,rfl⟩:a=a'/\len=len'/\cap=cap':=by
        simp only [List.cons.injEq,Value.slice.injEq,Option.some.injEq,and_true] at h2
        exact h2
      have ha:a=⟨a.block,a.off,none⟩:=by rw [<-hsp]
      have hel2:∀i,i<len->∃u:α,ok u/\((cur.toList.drop a.off).drop (i*z)).take z=en u:=λi hi=>by
        have h3:=hes i hi
        rw [List.getElem?_eq_getElem Z,Option.bind_eq_some_iff] at h3
        obtain ⟨cs',h4,h5⟩:=h3
        obtain ⟨u,hu,rfl⟩:=hdec _ _ _ h5
        refine ⟨u,hu,?_⟩
        unfold World.cells? at h4
        rw [if_pos (Nat.zero_le _),hz] at h4
        refine List.ext_getElem? λj=>?_
        by_cases hj:j<z
        · have h6:=mapM_some_get h4 j j (by simp [hj])
          rw [ha,add_plain,add_plain] at h6
          unfold World.cell? at h6
          simp only [hcur] at h6
          rw [List.getElem?_take_of_lt hj,List.getElem?_drop,List.getElem?_drop,Array.getElem?_toList,<-h6]
          simp [Nat.add_assoc]
        · rw [List.getElem?_eq_none (by simp;omega),List.getElem?_eq_none (by rw [hlen];omega)]
      obtain ⟨l,hl1,hl2,hl3⟩:=P1 len hel2
      refine ⟨l,some a,cap,by rw [hl1],hl2,⟨(λe=>by cases e),(λa' e=>by cases e;exact hsp),Z⟩,λb e=>?_⟩
      have hb:a.block=b:=Option.some.inj e
      subst hb
      exact ⟨_,hcur,cur,T,fr,rfl,by rw [A6 hlen,hl1];exact hl3⟩
theorem Z6 {W:World} {r:Reach} {b0:Nat} {v:Value} {d:DataW H} {ps:List MemPlace} {fs gp gq gs:Array Field} {t0 t1 t2 p q i64 u32 a3 sd:TypeId} (ht:P.underlying t=some (.struct fs))
    (f0:∃f,fs[0]?=some f/\f.type=t0/\f.offset=0) (f1:∃f,fs[1]?=some f/\f.type=t1/\f.offset=1) (f2:∃f,fs[2]?=some f/\f.type=t2/\f.offset=2) (h0:P.underlying t0=some (.slice p)) (h1:P.underlying t1=some (.slice a3)) (h2:P.underlying t2=some (.slice sd))
    (c0:P.cellsOf t0=1) (c1:P.cellsOf t1=1) (c2:P.cellsOf t2=1) (hp:P.underlying p=some (.struct gp)) (p0:∃f,gp[0]?=some f/\f.type=q/\f.offset=0) (p1:∃f,gp[1]?=some f/\f.type=q/\f.offset=2) (hq:P.underlying q=some (.struct gq)) (q0:∃f,gq[0]?=some f/\f.type=i64/\f.offset=0) (q1:∃f,gq[1]?=some f/\f.type=u32/\f.offset=1)
    (hi:P.underlying i64=some (.int .i64)) (ci:P.cellsOf i64=1) (hu:P.underlying u32=some (.int .u32)) (cu:P.cellsOf u32=1) (cq:P.cellsOf q=2) (cp:P.cellsOf p=4) {it:TypeId} (ha:P.underlying a3=some (.array 3 it)) (hit:P.underlying it=some (.int .i64)) (cit:P.cellsOf it=1) (ca:P.cellsOf a3=3)
    (hs:P.underlying sd=some (.struct gs)) (s0:∃f,gs[0]?=some f/\f.type=it/\f.offset=0) (s1:∃f,gs[1]?=some f/\f.type=it/\f.offset=1) (s2:∃f,gs[2]?=some f/\f.type=it/\f.offset=2) (csd:P.cellsOf sd=3) (hct:P.cellTypes P.depth t=some [t0,t1,t2]) (hsz:P.cellsOf t=3)
    (hv:Value.okWide P W r b0 t v) (hT:DataW.Trod enc P W 0 sp hd t v d ps):∃m:RW,v=aG (G8 m)/\Ro (λ_=>True) W m:=by
  unfold Value.okWide at hv
  rw [ht] at hv
  obtain ⟨⟨cs⟩,rfl,hcs,ts',hts',_,hc⟩:=hv
  obtain rfl:=Option.some.inj (hct.symm.trans hts')
  have hl:cs.length=3:=by rw [<-hsz,<-hcs];simp
  match cs,hl,hc,hT with
  | [k0,k1,k2],_,hc,hT =>
    have g:∀(i:Nat) (u:TypeId) (v:Value),i<3->[t0,t1,t2][i]?=some u->[k0,k1,k2][i]?=some v->Cell.okWide P W r b0 u v:=λi u v hi hu hv=>by
      obtain ⟨u',h2,h3⟩:=hc i v (by simpa using hv)
      rw [Nat.mod_eq_of_lt (by simpa using hi),hu] at h2
      cases h2;exact h3
    obtain ⟨fuel,hT⟩:=hT
    have hT:DataW.trod enc P W 0 sp hd fuel t [k0,k1,k2]=some (d,ps):=hT
    obtain ⟨m0,y0,j0⟩:=EE ht f0 c0 hT
    obtain ⟨m1,y1,j1⟩:=EE ht f1 c1 hT
    obtain ⟨m2,y2,j2⟩:=EE ht f2 c2 hT
    obtain ⟨ds,pa,ca',rfl,hd1,ok1,hh1⟩:=IQ (ok:=PD.ok) h0 cp FJ (λfuel cs x h=>Zk hp p0 p1 hq q0 q1 hi ci hu cu cq cp h) (g 0 _ _ (by decide) rfl rfl) j0
    obtain ⟨tl,pb,cb,rfl,_,ok2,hh2⟩:=IQ (ok:=λ_=>True) h1 ca CQ (λfuel cs x h=>(Yl ha hit cit ca h).imp λa k=>⟨trivial,k⟩) (g 1 _ _ (by decide) rfl rfl) j1
    obtain ⟨sl,pc,cc,rfl,_,ok3,hh3⟩:=IQ (ok:=λ_=>True) h2 csd CQ (λfuel cs x h=>(YI hs s0 s1 s2 hit cit csd h).imp λa k=>⟨trivial,k⟩) (g 2 _ _ (by decide) rfl rfl) j2
    refine ⟨⟨ds,tl,sl,⟨pa,ca',ok1⟩,⟨pb,cb,ok2⟩,⟨pc,cc,ok3⟩,hd1⟩,rfl,λy hy=>?_⟩
    have hy:y∈[AJ pa (rowsL Gj ds),AJ pb (rowsL Bg tl),AJ pc (rowsL Bg sl)]:=hy
    simp only [List.mem_cons,List.not_mem_nil,or_false] at hy
    rcases hy with rfl|rfl|rfl
    · exact ⟨hh1,λ_ _=>trivial⟩
    · exact ⟨hh2,λ_ _=>trivial⟩
    · exact ⟨hh3,λ_ _=>trivial⟩
end
end
end Go.Proofs.YtpgncndhhhllfaaGreat
