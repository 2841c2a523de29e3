import Derived.WideLaws
import Derived.Test.YtpgncndhhhllfaaGreatPart03
import Derived.Test.YtpgncndhhhllfaaGreatPart24
import Derived.Test.YtpgncndhhhllfaaGreatPart27
import Derived.Test.YtpgncndhhhllfaaGreatPart33
namespace Go.Proofs.YtpgncndhhhllfaaGreat
open Go Go.RowKit Go.Proofs.Tryz
set_option linter.unusedVariables false
set_option linter.unusedSimpArgs false
section
set_option maxRecDepth 100000
theorem bY:ElemT prog 74 84 3 24:=⟨underlying74,CR (by kernel_rfl)⟩
theorem Ul (p:Option Addr) (n cp:Nat) (h:n<=cp) (w:World)  :Calls prog 54 #[(Value.slice p n cp)] w (A9 w (Value.slice p n n)):=by
 refine Aq (args:=[(Value.slice p n cp)]) func54 O O (Ad O) (AE.subF (sL [0] O) (q4 (AI O (AC.nil (q2 (AM O (AM O (AJ (v:=(vN n)) (AF O underlying74) O (AM O (AJ (v:=(vN n)) (AF O underlying74) O (AJ (v:=(Value.slice p n n)) (DY (m:=n) O O O underlying74 sizeOf84 Z) O ?_)))))))))))
 exact AI O (AC.nil (OkQ.subF (sL [2] O) (OkQ.then_ (AE.ret (AV O (Ah (v:=(Value.slice p n n)) O) (λw hw=>⟨rfl,hw.out⟩))))))
theorem F9 (x0 x1:Nat):Instr.fill (λi=>some (i*1,1)) (Ap ((0,0):P2)).toArray [(0,vN x0),(1,vN x1)]=some (Ap (x0,x1)).toArray:=by kernel_rfl
theorem Gc (x0:Tq3):Instr.fill (λi=>some (i*3,3)) ((Array.range (1*3)).map ((Value.agg (AZ ((0,0,0):Tq3)).toArray).cells[·%(Value.agg (AZ ((0,0,0):Tq3)).toArray).cells.size]!)) [(0,.agg (AZ x0).toArray)]=some (AZ x0).toArray:=by kernel_rfl
set_option maxHeartbeats 1000000 in
theorem Ny {ps:List Pt} {ts ss:List T3} (x:MX ps ts ss) (sx:SX ts true) (hnb:BI ps.length ts=true) (hp:ps.length<=1000000) (htl:ts.length<=1000000) (w:World) {S:Nat->Prop} (hx:Ro S w x) (hsx:Ro S w sx):Calls prog 36 #[(aG (Bp x)),(Value.map (some sx.b))] w (Am (CX (rowsL AZ (AX ts)) (AX ts).length) S w):=by
 have hrl:=IM (ts:=ts)
 have lx:=Dk (W:=w) hx
 have lsx:=Dk (W:=w) hsx
 refine An (args:=[(aG (Bp x)),(Value.map (some sx.b))]) (L:=[AK x.a.p (rowsL Bf ps),AK x.b.p (rowsL AZ ts),AK x.c.p (rowsL AZ ss),II sx.b Ee vN sx.kvs]) func36 O O (Ad O) (E3 hx (E3 hsx BA)) (AE.subF (sL [0,1] O) (q4 (Ca (cs:=Bp x) O λb1=>AI O (q3 (sL [1,2,4] O) (AI O (AC.nilRow 84 3 (AC.nil (q1 (q4 (AJ (v:=(pP b1 0)) (AB O underlying31 O sizeOf27 O) O ?_))))))))))
 refine BE 1 (Value.slice x.a.p ps.length x.a.c) Zj O (AJ (v:=(pP b1 1)) (AB O underlying31 O sizeOf28 O) O (BE 1 (Value.slice x.b.p ts.length x.b.c) Bl O (AC.callL (S:=S) (V:=eF) (LW:=cd (T:=70) (z:=3) (cs:=rowsL AZ (A6 ts)) (n:=(A6 ts).length)) (args:=[(Value.slice x.a.p ps.length x.a.c),(Value.slice x.b.p ts.length x.b.c)]) call53 (λw hw=>Y6 ts x.b x.a.p ps.length x.a.c hnb Z Z w (Zi (Br hw 2 O lx))) O λrm hrm=>AJ (v:=(vN ((A6 ts).length))) (AF O underlying29) O (AM O (AC.nil (OkQ.subF (sL [1,4,5,14,15,16] O) (OkQ.then_ (AE.block ?_))))))))
 refine AE.lp4 (tg λ(i:Nat) (p1:Option Addr) (c1:Nat) (out:List T3)=>i<=(A6 ts).length/\OwnOk p1 out.length c1/\out=Nn sx.kvs (A6 ts) i) (tg λ(i:Nat) (p1:Option Addr) (c1:Nat) (out:List T3)=>[(1,(Value.map (some sx.b))),(4,(Value.slice none 0 0)),(14,(Value.slice rm.p ((A6 ts).length) ((A6 ts).length))),(15,(vN ((A6 ts).length))),(16,(vN i)),(5,(Value.slice p1 out.length c1))]) (tg λ(i:Nat) (p1:Option Addr) (c1:Nat) (out:List T3)=>[rowW rm.p 70 3 ((A6 ts).length) rm.c (rowsL AZ (A6 ts)),rowW p1 84 3 out.length c1 (rowsL AZ out),Af b1 31 (Bp x),AK x.a.p (rowsL Bf ps),AK x.b.p (rowsL AZ ts),AK x.c.p (rowsL AZ ss),II sx.b Ee vN sx.kvs]) (tg λ(i:Nat) (p1:Option Addr) (c1:Nat) (out:List T3)=>(A6 ts).length-i) 0 none 0 ([]:List T3) (⟨Nat.zero_le _,OwnOk.none,rfl⟩) (sF O) sr (λi p1 c1 out hJ=>?_)
 obtain ⟨hi,ho,hou⟩:=hJ
 have hol:=UY (kvs:=sx.kvs) (rs:=A6 ts) i
 rw [<-hou] at hol
 refine q4 (AJ (Ac (c:=(decide (i<((A6 ts).length)))) O O (CD (a:=i) (b:=(A6 ts).length))) O (AC.nil (q1 ?_)))
 refine AE.cond O (λhc0=>?_) (λhc0=>?_)
 ·replace hc0:=of_decide_eq_true hc0
  obtain ⟨sd,hsd⟩:∃q,q=(A6 ts).getD i (0,0,0):=⟨_,rfl⟩
  obtain ⟨hea,heb⟩:=YG hnb Z (s:=sd) (by rw [hsd,List.getD,List.getElem?_eq_getElem hc0];exact List.getElem_mem hc0)
  refine AE.skip (q1 (AE.block (q4 (AJ (v:=(pP (pB rm.p) (pO rm.p+i*3))) (AG (j:=i) O O rm.ok.clip underlying29 sizeOf70 O Z) O (AJ (v:=(aG (AZ ((A6 ts).getD i ((0,0,0):Tq3))))) (CP (vs:=AZ ((A6 ts).getD i ((0,0,0):Tq3))) (i:=0) O O rm.ok (Al Aa _) (Aw.ne rm.ok.clip Z) dm (BD Aa _ _ _ Z) (Aa _)) O (AC.retell (k:=19) (u:=(aG (AZ sd))) O (by rw [hsd]) (al d8 O λb2=>BN O sizeOf70 O (q3 (sL [1,4,14,15,16,5,7] O) (AM O (AJ (v:=(pP b2 0)) (AB O underlying70 O sizeOf3 O) O ?_))))))))))
  refine BE 0 (vN sd.1) BY O (AJ (v:=(pP b2 1)) (AB O underlying70 O sizeOf3 O) O (BE 0 (vN sd.2.1) BY O (AJ (v:=(aG (Ap (sd.1,sd.2.1)))) (Ar (zs:=Ap ((0,0):P2)) (vs:=Ap (sd.1,sd.2.1)) (pv:=[(0,(vN sd.1)),(1,(vN sd.2.1))]) zeroValue112 underlying112 sizeOf3 O (F9 sd.1 sd.2.1)) O (AJ (v:=(Value.tuple #[(vN ((Ae sx.kvs (sd.1,sd.2.1)).getD 0)),(Value.bool ((Ae sx.kvs (sd.1,sd.2.1)).isSome))])) (F0 FY 7 (eV:=vN) (kvs:=sx.kvs) (x:=(sd.1,sd.2.1)) (z0:=0) (co:=true) O O underlying71 zeroValue3 O (sx.ok) (⟨by show (_:Nat)<_;omega,by show (_:Nat)<_;omega⟩)) O (AM O (AJ (Ab (v:=(vN ((Ae sx.kvs (sd.1,sd.2.1)).getD 0))) O O) O (AJ (Ab (v:=(Value.bool ((Ae sx.kvs (sd.1,sd.2.1)).isSome))) O O) O (AI O (AI O (q3 (sL [1,4,14,15,16,5,7,8,9] O) (AM O ?_)))))))))))
  refine AC.nil (OkQ.subF (sL [1,4,14,15,16,5,7,8,30] O) (OkQ.then_ ?_))
  refine AE.cond O (λhc1=>?_) (λhc1=>?_)
  ·skip
   refine AE.region (AM O (AJ (v:=(pP b2 0)) (AB O underlying70 O sizeOf3 O) O (BE 0 (vN sd.1) BY O (AJ (v:=(pP b2 1)) (AB O underlying70 O sizeOf3 O) O (BE 0 (vN sd.2.1) BY O (AM O (AJ (v:=(aG ([(vN sd.1),(vN sd.2.1),(vN ((Ae sx.kvs (sd.1,sd.2.1)).getD 0))]))) (AY (zs:=AZ ((0,0,0):Tq3)) (vs:=[(vN sd.1),(vN sd.2.1),(vN ((Ae sx.kvs (sd.1,sd.2.1)).getD 0))]) (pv:=[(0,(vN sd.1)),(1,(vN sd.2.1)),(2,(vN ((Ae sx.kvs (sd.1,sd.2.1)).getD 0)))]) (places:=[(0,1),(1,1),(2,1)]) zeroValue84 underlying84 (λw=>by simp [sizeOf3]) O O) O (AC.openV (V:=λb3=>(Value.slice (some ⟨b3,0,none⟩) 1 1)) (T:=84) (cs:=AZ ((sd.1,sd.2.1,(Ae sx.kvs (sd.1,sd.2.1)).getD 0):T3)) (AP O) (Ai (z:=.agg (AZ ((0,0,0):Tq3)).toArray) (cs:=AZ ((sd.1,sd.2.1,(Ae sx.kvs (sd.1,sd.2.1)).getD 0):T3)) (pv:=[(0,(aG ([(vN sd.1),(vN sd.2.1),(vN ((Ae sx.kvs (sd.1,sd.2.1)).getD 0))])))]) underlying74 sizeOf84 zeroValue84 (by decide) (by decide) O (Gc ((sd.1,sd.2.1,(Ae sx.kvs (sd.1,sd.2.1)).getD 0):T3))) O (Ad O) λb3=>AC.appendAt 3 (j:=0) (cs2:=rowsL AZ (out++[((sd.1,sd.2.1,(Ae sx.kvs (sd.1,sd.2.1)).getD 0):T3)])) bY O ho (Al Aa _) O O O O O (by decide) (FE Z) Z (by rw [BJ];rfl) O λp_1 c_1 ho_1 hne_1=>AI O (AC.nil ?_)))))))))
   refine OkQ.subF (sL [1,4,14,15,16,5,7] O) (OkQ.in_normal (OkQ.then_ (AE.region (AJ (AQ (c:=((i+1:Nat):Int)) O O (AN (a:=i) (b:=1) Z)) O (AM O (AC.nil (OkQ.subF (sL [1,4,14,15,16,5,7] O) ?_)))))))
   rw [show out.length+1=(out++[((sd.1,sd.2.1,(Ae sx.kvs (sd.1,sd.2.1)).getD 0):T3)]).length by simp]
   exact OkQ.round4 (i+1) p_1 c_1 (out++[((sd.1,sd.2.1,(Ae sx.kvs (sd.1,sd.2.1)).getD 0):T3)]) (⟨Z,(by simpa using ho_1),by rw [hou,MD hc0,<-hsd];first|rw [Gk hc1]|rw [IP hc1]⟩) Z (sF O) (sl (sl sr))
  ·skip
   refine Ck [(0,true),(1,true),(2,true),(3,true),(4,true),(5,true),(6,true),(7,true),(8,true),(9,true),(10,true),(11,true),(12,true),(13,false),(14,false),(15,true)] (sk (sk (sl sr))) (BT O (Ao (v:=(pP b2 1)) O (AB O underlying70 O sizeOf3 O) (Bk 0 (vN sd.2.1) BY O (Ao (v:=(pP b2 0)) O (AB O underlying70 O sizeOf3 O) (Bk 0 (vN sd.1) BY O (BT O (Ao (v:=(pP b2 1)) O (AB O underlying70 O sizeOf3 O) (Bk 0 (vN sd.2.1) BY O (Ao (v:=(pP b2 0)) O (AB O underlying70 O sizeOf3 O) (Bk 0 (vN sd.1) BY O (Ao (v:=(aG (Ap (sd.2.1,sd.1)))) O (Ar (zs:=Ap ((0,0):P2)) (vs:=Ap (sd.2.1,sd.1)) (pv:=[(0,(vN sd.2.1)),(1,(vN sd.1))]) zeroValue112 underlying112 sizeOf3 O (F9 sd.2.1 sd.1)) ?_)))))))))))
   refine Ao (v:=(vN ((Ae sx.kvs (sd.2.1,sd.1)).getD 0))) O (F0 FY 6 (eV:=vN) (kvs:=sx.kvs) (x:=(sd.2.1,sd.1)) (z0:=0) (co:=false) O O underlying71 zeroValue3 O (sx.ok) (⟨by show (_:Nat)<_;omega,by show (_:Nat)<_;omega⟩)) (Ao (v:=(aG ([(vN sd.2.1),(vN sd.1),(vN ((Ae sx.kvs (sd.2.1,sd.1)).getD 0))]))) O (AY (zs:=AZ ((0,0,0):Tq3)) (vs:=[(vN sd.2.1),(vN sd.1),(vN ((Ae sx.kvs (sd.2.1,sd.1)).getD 0))]) (pv:=[(0,(vN sd.2.1)),(1,(vN sd.1)),(2,(vN ((Ae sx.kvs (sd.2.1,sd.1)).getD 0)))]) (places:=[(0,1),(1,1),(2,1)]) zeroValue84 underlying84 (λw=>by simp [sizeOf3]) O O) (OkE.imp O (AC.openV (V:=λb3=>(Value.slice (some ⟨b3,0,none⟩) 1 1)) (T:=84) (cs:=AZ ((sd.2.1,sd.1,(Ae sx.kvs (sd.2.1,sd.1)).getD 0):T3)) (AP O) (Ai (z:=.agg (AZ ((0,0,0):Tq3)).toArray) (cs:=AZ ((sd.2.1,sd.1,(Ae sx.kvs (sd.2.1,sd.1)).getD 0):T3)) (pv:=[(0,(aG ([(vN sd.2.1),(vN sd.1),(vN ((Ae sx.kvs (sd.2.1,sd.1)).getD 0))])))]) underlying74 sizeOf84 zeroValue84 (by decide) (by decide) O (Gc ((sd.2.1,sd.1,(Ae sx.kvs (sd.2.1,sd.1)).getD 0):T3))) O (Ad O) λb3=>OkE.back (sl (sk (sk (sl sr)))) (OkE.imp O (AC.appendAt 3 (j:=0) (cs2:=rowsL AZ (out++[((sd.2.1,sd.1,(Ae sx.kvs (sd.2.1,sd.1)).getD 0):T3)])) bY O ho (Al Aa _) O O O O O (by decide) (FE Z) Z (by rw [BJ];rfl) O λp_2 c_2 ho_2 hne_2=>OkE.back (sl (sk (sk (sl sr)))) (pS' O (OkE.nil (OkQ.subF (sL [1,4,14,15,16,5,7,8] O) (OkQ.in_normal ?_)))))))))
   refine OkQ.then_ (AE.region (AJ (AQ (c:=((i+1:Nat):Int)) O O (AN (a:=i) (b:=1) Z)) O (AM O (AC.nil (OkQ.subF (sL [1,4,14,15,16,5,7,8] O) ?_)))))
   rw [show out.length+1=(out++[((sd.2.1,sd.1,(Ae sx.kvs (sd.2.1,sd.1)).getD 0):T3)]).length by simp]
   exact OkQ.round4 (i+1) p_2 c_2 (out++[((sd.2.1,sd.1,(Ae sx.kvs (sd.2.1,sd.1)).getD 0):T3)]) (⟨Z,(by simpa using ho_2),by rw [hou,MD hc0,<-hsd];first|rw [Gk hc1]|rw [IP hc1]⟩) Z (sF O) (sl (sl sr))
 ·replace hc0:=of_decide_eq_false hc0
  exact AE.exit (OkQ.then_exit (OkQ.round4_exit (OkQ.in_exit (q2 (AM O (ck' call54 (Ul p1 out.length c1 ho.row.le) O (AI O (AC.nil (OkQ.subF (sL [1,4,14,15,16,5] O) (OkQ.then_ (AE.ret (AV O (Ah (v:=(Value.slice p1 out.length out.length)) O) (λw hw=>(by rw [show AX ts=out from by rw [hou,show i=(A6 ts).length by omega];exact (Vv (sx.fin O)).symm];exact Wg hw 1 O ho (Al Aa _) O))))))))))))))
theorem X7 {ps:List Pt} {ts ss:List T3} (x:MX ps ts ss) (sx:SX ts true) (hnb:BI ps.length ts=true) (hp:ps.length<=1000000) (htl:ts.length<=1000000) (w:World) {S:Nat->Prop} (hx:Ro S w x) (hs:Ro S w sx):Calls prog 36 #[(aG (Bp x)),(Value.map (some sx.b))] w (Am (RX (rowsL AZ (AX ts)) (AX ts).length) S w):=(Ny x sx hnb hp htl w hx hs).mono λe w1 h=>h.ofCX
theorem OL {ps:List Pt} {ts ss:List T3} (x:MX ps ts ss) (hor:(BI ps.length ts&&Bc ts (3*ts.length))=true) (hp:ps.length<=1000000) (htl:ts.length<=1000000) (w:World) {S:Nat->Prop} (hx:Ro S w x):Calls prog 16 #[(aG (Bp x))] w (Am (CX (rowsL AZ (AX ts)) (AX ts).length) S w):=by
 have hnb:BI ps.length ts=true:=(Bool.and_eq_true _ _▸hor).1
 have lx:=Dk (W:=w) hx
 refine An (args:=[(aG (Bp x))]) (L:=[AK x.a.p (rowsL Bf ps),AK x.b.p (rowsL AZ ts),AK x.c.p (rowsL AZ ss)]) func16 O O (Ad O) (E3 hx BA) (AE.subF (sL [0] O) (q4 (Ca (cs:=Bp x) O λb1=>AI O (q3 (sL [1,2] O) (BF 0 DA O (AC.callR (S:=S) (α:=SX ts true) (args:=[(aG (Bp x))]) call15 (λw hw=>(by have h9:=Kh x hp htl w (Br hw 1 O lx);rw [hor] at h9;exact h9)) O O O λsx lsx=>AM O (AJ (Ab (v:=(Value.map (some sx.b))) O O) O (AJ (Ab (v:=(Value.bool true)) O O) O (AI O ?_)))))))))
 refine AI O (q6 (sL [1,2,3,4] O) (q4 (AM O (AJ (Bj (c:=false) O O) O (AC.nil (OkQ.subF (sL [1,2,3,11] O) (OkQ.then_ (AE.cond_false O (AE.skip (q2 (BF 1 DA O ?_)))))))))))
 exact AM O (AC.callR (S:=S) (α:=CX (rowsL AZ (AX ts)) (AX ts).length) (args:=[(aG (Bp x)),(Value.map (some sx.b))]) call36 (λw hw=>Ny x sx hnb hp htl w (Br hw 2 O lx) (Br hw 0 O lsx)) O O O λwy lwy=>AI O (AC.nil (OkQ.subF (sL [1,2] O) (OkQ.then_ (AE.ret (AV O (Ah (v:=(Value.slice wy.p ((AX ts).length) ((AX ts).length))) O) (λw hw=>(G9 hw (Br hw 0 O lwy) O))))))))
theorem YW {ps:List Pt} {ts ss:List T3} (x:MX ps ts ss) (hor:(BI ps.length ts&&Bc ts (3*ts.length))=true) (hp:ps.length<=1000000) (htl:ts.length<=1000000) (w:World) {S:Nat->Prop} (hx:Ro S w x):Calls prog 16 #[(aG (Bp x))] w (Am (RX (rowsL AZ (AX ts)) (AX ts).length) S w):=(OL x hor hp htl w hx).mono λe w1 h=>h.ofCX
end
section
set_option maxRecDepth 100000
end
section
section
variable {P:Program} {n:Nat} {F:List (Nat×Value)} {w0:BL} {L:List As} {x y:Operand} {d:Option Tmp} {t:TypeId} {p:String} {af:Array Edge} {g:Option (Nat×Bool)}
theorem CM {cs:List Value} {s e nn:Nat} {ki:IntKind} {j:Nat} {v:Value} (hx:evF F x=some (aG cs)) (hy:evF F y=some (.int ki ((j:Nat):Int))) (hu:P.underlying s=some (.array nn e)) (hsz:∀w,(sizeOf e).run P w=.ok 1 w) (hg:∀w,(isAgg e).run P w=.ok false w) (hj:j<nn) (hv:cs[j]?=some v) :
    Ex P n F w0 L ⟨d,.index s x y,t,p,af,g⟩ v:=λA w ha _=>by
  simp [execOp,ha.ev hx,ha.ev hy,Instr.index,asIntOf,run_underlying hu,hsz,hg,hj,hv,part]
end
def CE (ts:List T3):Nat->List (Nat×Nat)
  | 0=>[]
  | s+1=>BG (CE ts s) (Bw (ts.getD (s/3) (0,0,0)) (s%3)) ((Ae (CE ts s) (Bw (ts.getD (s/3) (0,0,0)) (s%3))).getD 0+1)
theorem Ie {ts:List T3} {t r:Nat} (hr:r<3):BG (CE ts (3*t+r)) (Bw (ts.getD t (0,0,0)) r) ((Ae (CE ts (3*t+r)) (Bw (ts.getD t (0,0,0)) r)).getD 0+1)=CE ts (3*t+r+1):=by
  show _=BG (CE ts (3*t+r)) (Bw (ts.getD ((3*t+r)/3) (0,0,0)) ((3*t+r)%3)) ((Ae (CE ts (3*t+r)) (Bw (ts.getD ((3*t+r)/3) (0,0,0)) ((3*t+r)%3))).getD 0+1)
  rw [show (3*t+r)/3=t by omega,show (3*t+r)%3=r by omega]
theorem Hu {ts:List T3}:∀s k,(Ae (CE ts s) k).getD 0<=s
  | 0,k=>Nat.zero_le _
  | s+1,k=>by
    show (Ae (BG _ _ _) k).getD 0<=_
    rw [Cc];split
    · have:=Hu (ts:=ts) s (Bw (ts.getD (s/3) (0,0,0)) (s%3));show _+1<=_;omega
    · exact Nat.le_trans (Hu s k) Z
theorem St {kvs:List (Nat×Nat)} {x y:Nat}:(BG kvs x y).length<=kvs.length+1:=by
  induction kvs with
  | nil=>exact Nat.le_refl _
  | cons p r ih=>obtain ⟨k,v⟩:=p;unfold BG;split<;>simp only [List.length_cons]<;>omega
theorem Hl {ts:List T3}:∀s,(CE ts s).length<=s
  | 0=>Nat.le_refl _
  | s+1=>Nat.le_trans St (by have:=Hl (ts:=ts) s;omega)
theorem FC {ts:List T3} {N:Nat} (hn:BI N ts=true) (hN:N<=4611686018427387904):∀s,s<=3*ts.length->G8 Uc (CE ts s)
  | 0,_=>⟨λp hp=>(by cases hp),List.Pairwise.nil⟩
  | s+1,h=>(FC hn hN s Z).put (by
    obtain ⟨g1,g2,g3⟩:=Cy (CW hn (show s/3<ts.length by omega))
    show Bw _ _<_
    unfold Bw;split
    · omega
    · split<;>omega)
def FR (ts:List T3):Int:=((CE ts (3*ts.length)).length:Int)-(Bd ts).length+ts.length
end
section
set_option maxRecDepth 100000
theorem Er:JO prog 3 vN Uc:=Zq underlying3
set_option maxHeartbeats 1000000 in
theorem KG {ps:List Pt} {ts ss:List T3} (x:MX ps ts ss) (hnb:BI ps.length ts=true) (hp:ps.length<=1000000) (htl:ts.length<=1000000) (w:World) {S:Nat->Prop} (hx:Ro S w x):Calls prog 25 #[(aG (Bp x))] w (A9 w (vI (FR ts))):=by
 have hel0:=J2 ts
 have hcl0:=Hl (ts:=ts) (3*ts.length)
 have lx:=Dk (W:=w) hx
 refine An (args:=[(aG (Bp x))]) (L:=[AK x.a.p (rowsL Bf ps),AK x.b.p (rowsL AZ ts),AK x.c.p (rowsL AZ ss)]) func25 O O (Ad O) (E3 hx BA) (AE.subF (sL [0] O) (q4 (Ca (cs:=Bp x) O λb1=>AI O (q6 (sL [1,2] O) (q4 (BF 0 DA O (DS (args:=[(aG (Bp x))]) (v:=(Value.bool true)) call35 (λw hw=>(by have h9:=Jc x Z w (Br hw 1 O lx);rw [hnb] at h9;exact h9)) O (AJ (Bj (c:=false) O O) O (AC.nil (OkQ.subF (sL [1,2,10] O) ?_))))))))))
 refine OkQ.then_ (AE.cond_false O (AE.skip (q2 (AC.makeMap vN vN (AP O) O λb2=>AI O (q6 (sL [1,2,3] O) (q4 (AJ (v:=(pP b1 1)) (AB O underlying31 O sizeOf28 O) O (BE 1 (Value.slice x.b.p ts.length x.b.c) Bl O (AJ (v:=(vN ts.length)) (AF O underlying28) O (AM O ?_))))))))))
 refine AC.nil (OkQ.subF (sL [1,2,3,13,14,15] O) (OkQ.then_ (AE.block ?_)))
 refine AE.lp1 (tg λ(t:Nat)=>t<=ts.length) (tg λ(t:Nat)=>[(1,(pP b1 0)),(2,(vI 0)),(3,(Value.map (some b2))),(13,(Value.slice x.b.p ts.length x.b.c)),(14,(vN ts.length)),(15,(vN t))]) (tg λ(t:Nat)=>[Bu b2 vN vN (CE ts (3*t+0)),Af b1 31 (Bp x),AK x.a.p (rowsL Bf ps),AK x.b.p (rowsL AZ ts),AK x.c.p (rowsL AZ ss)]) (tg λ(t:Nat)=>ts.length-t) 0 (Nat.zero_le _) (sF O) sr (λt hJ=>?_)
 have ht:=hJ
 refine q4 (AJ (Ac (c:=(decide (t<ts.length))) O O (CD (a:=t) (b:=ts.length))) O (AC.nil (q1 ?_)))
 refine AE.cond O (λhc1=>?_) (λhc1=>?_)
 ·replace hc1:=of_decide_eq_true hc1
  obtain ⟨T,hT⟩:∃q,q=ts.getD t (0,0,0):=⟨_,rfl⟩
  obtain ⟨g1,g2,g3⟩:=Cy (CW hnb hc1)
  rw [<-hT] at g1 g2 g3
  refine AE.skip (q1 (AE.block (q4 (AJ (v:=(pP (pB x.b.p) (pO x.b.p+t*3))) (AG (j:=t) O O x.b.ok underlying28 sizeOf68 O Z) O (AJ (v:=(aG (AZ (ts.getD t ((0,0,0):Tq3))))) (Ak (vs:=AZ (ts.getD t ((0,0,0):Tq3))) (i:=3) O O (Aw.ne x.b.ok Z) Dj (BD Aa _ _ _ Z) (Aa _)) O (AC.retell (k:=18) (u:=(aG (AZ T))) O (by rw [hT]) (al O7 O λb3=>BN O sizeOf68 O (q3 (sL [1,2,3,13,14,15,5] O) (BF 0 Dj O (AM O ?_))))))))))
  refine AC.nil (OkQ.then_ (AE.block (AE.unroll 4 (Fr.step (q4 (AJ (Ac (c:=true) O O (by decide)) O (AC.nil (q1 (AE.cond_true O (AE.skip (q1 ?_)))))))))))
  refine AE.block (q4 (AJ (v:=(vN T.1)) (CM (j:=0) O O underlying68 sizeOf3 isAgg3 (by decide) O) O (AI O (AC.nil (OkQ.subF (sL [1,2,3,13,14,15,5,19,20,7] O) (OkQ.then_ (AE.region (AM O (AM O (AJ (v:=(vN ((Ae (CE ts (3*t+0)) T.1).getD 0))) (Bo Er 1 (eV:=vN) (kvs:=CE ts (3*t+0)) (x:=T.1) (z0:=0) (co:=false) O O underlying124 zeroValue3 O (FC hnb Z _ Z) (by show (_:Nat)<_;omega)) O ?_))))))))))
  have hle0:=Hu (ts:=ts) (3*t+0) T.1
  refine AJ (AQ (c:=((((Ae (CE ts (3*t+0)) T.1).getD 0)+1:Nat):Int)) O O (AN (a:=(Ae (CE ts (3*t+0)) T.1).getD 0) (b:=1) Z)) O (AC.mapUpdate Er 1 (kvs:=CE ts (3*t+0)) (x:=T.1) (y:=((Ae (CE ts (3*t+0)) T.1).getD 0)+1) (AP O) O O O underlying124 O (FC hnb Z _ Z) (by show (_:Nat)<_;omega) ?_)
  rw [show BG (CE ts (3*t+0)) T.1 (((Ae (CE ts (3*t+0)) T.1).getD 0)+1)=CE ts (3*t+1) from by rw [hT];exact Ie Z]
  refine AC.nil (OkQ.subF (sL [1,2,3,13,14,15,5,19,20] O) (OkQ.in_normal (OkQ.then_ (AE.region (AJ (AQ (c:=(1:Int)) O O (by decide)) O (AM O (AC.nil (OkQ.subF (sL [1,2,3,13,14,15,5,19,20] O) (OkQ.again (Fr.step (q4 ?_)))))))))))
  refine AJ (Ac (c:=true) O O (by decide)) O (AC.nil (q1 (AE.cond_true O (AE.skip (q1 (AE.block (q4 (AJ (v:=(vN T.2.1)) (CM (j:=1) O O underlying68 sizeOf3 isAgg3 (by decide) O) O (AI O (AC.nil (OkQ.subF (sL [1,2,3,13,14,15,5,19,20,7] O) ?_)))))))))))
  refine OkQ.then_ (AE.region (AM O (AM O (AJ (v:=(vN ((Ae (CE ts (3*t+1)) T.2.1).getD 0))) (Bo Er 1 (eV:=vN) (kvs:=CE ts (3*t+1)) (x:=T.2.1) (z0:=0) (co:=false) O O underlying124 zeroValue3 O (FC hnb Z _ Z) (by show (_:Nat)<_;omega)) O ?_))))
  have hle1:=Hu (ts:=ts) (3*t+1) T.2.1
  refine AJ (AQ (c:=((((Ae (CE ts (3*t+1)) T.2.1).getD 0)+1:Nat):Int)) O O (AN (a:=(Ae (CE ts (3*t+1)) T.2.1).getD 0) (b:=1) Z)) O (AC.mapUpdate Er 1 (kvs:=CE ts (3*t+1)) (x:=T.2.1) (y:=((Ae (CE ts (3*t+1)) T.2.1).getD 0)+1) (AP O) O O O underlying124 O (FC hnb Z _ Z) (by show (_:Nat)<_;omega) ?_)
  rw [show BG (CE ts (3*t+1)) T.2.1 (((Ae (CE ts (3*t+1)) T.2.1).getD 0)+1)=CE ts (3*t+2) from by rw [hT];exact Ie Z]
  refine AC.nil (OkQ.subF (sL [1,2,3,13,14,15,5,19,20] O) (OkQ.in_normal (OkQ.then_ (AE.region (AJ (AQ (c:=(2:Int)) O O (by decide)) O (AM O (AC.nil (OkQ.subF (sL [1,2,3,13,14,15,5,19,20] O) (OkQ.again (Fr.step (q4 ?_)))))))))))
  refine AJ (Ac (c:=true) O O (by decide)) O (AC.nil (q1 (AE.cond_true O (AE.skip (q1 (AE.block (q4 (AJ (v:=(vN T.2.2)) (CM (j:=2) O O underlying68 sizeOf3 isAgg3 (by decide) O) O (AI O (AC.nil (OkQ.subF (sL [1,2,3,13,14,15,5,19,20,7] O) ?_)))))))))))
  refine OkQ.then_ (AE.region (AM O (AM O (AJ (v:=(vN ((Ae (CE ts (3*t+2)) T.2.2).getD 0))) (Bo Er 1 (eV:=vN) (kvs:=CE ts (3*t+2)) (x:=T.2.2) (z0:=0) (co:=false) O O underlying124 zeroValue3 O (FC hnb Z _ Z) (by show (_:Nat)<_;omega)) O ?_))))
  have hle2:=Hu (ts:=ts) (3*t+2) T.2.2
  refine AJ (AQ (c:=((((Ae (CE ts (3*t+2)) T.2.2).getD 0)+1:Nat):Int)) O O (AN (a:=(Ae (CE ts (3*t+2)) T.2.2).getD 0) (b:=1) Z)) O (AC.mapUpdate Er 1 (kvs:=CE ts (3*t+2)) (x:=T.2.2) (y:=((Ae (CE ts (3*t+2)) T.2.2).getD 0)+1) (AP O) O O O underlying124 O (FC hnb Z _ Z) (by show (_:Nat)<_;omega) ?_)
  rw [show BG (CE ts (3*t+2)) T.2.2 (((Ae (CE ts (3*t+2)) T.2.2).getD 0)+1)=CE ts (3*t+3) from by rw [hT];exact Ie Z]
  refine AC.nil (OkQ.subF (sL [1,2,3,13,14,15,5,19,20] O) (OkQ.in_normal (OkQ.then_ (AE.region (AJ (AQ (c:=(3:Int)) O O (by decide)) O (AM O (AC.nil (OkQ.subF (sL [1,2,3,13,14,15,5,19,20] O) (OkQ.again (Fr.step (q4 ?_)))))))))))
  refine AJ (Ac (c:=false) O O (by decide)) O (AC.nil (q1 (AE.cond_false O (AE.exit (OkQ.then_exit (OkQ.then_exit (OkQ.in_exit (OkQ.in_normal (OkQ.then_ (AE.region (AJ (AQ (c:=((t+1:Nat):Int)) O O (AN (a:=t) (b:=1) Z)) O ?_)))))))))))
  refine AM O (AC.nil (OkQ.subF (sL [1,2,3,13,14,15,5,19,20] O) ?_))
  rw [show 3*t+3=3*(t+1)+0 by omega]
  exact OkQ.round1 (t+1) Z Z (sF O) (sl sr)
 ·replace hc1:=of_decide_eq_false hc1
  rw [show CE ts (3*t+0)=CE ts (3*ts.length) by rw [show 3*t+0=3*ts.length by omega]]
  refine AE.exit (OkQ.then_exit (OkQ.round1_exit (OkQ.in_exit (q1 (Ck [(0,true),(1,true),(2,true),(6,true),(7,true),(8,true),(3,false),(4,true),(5,true),(9,true),(10,true)] sr (BT O (Ao (v:=(vN ((CE ts (3*ts.length)).length))) O (K6 0 O underlying124 O) (G6 1 DA O (Ao (v:=(pP b1 1)) O (AB O underlying31 O sizeOf28 O) (Bk 1 (Value.slice x.b.p ts.length x.b.c) Bl O (Ao (v:=(vN ts.length)) O (AF O underlying28) ?_)))))))))))
  exact OkE.imp O (cX (S:=S) (cs:=rowsL B8 (Bd ts)) (k:=(Bd ts).length) (args:=[(aG (Bp x))]) call46 (λw hw=>Tp x Z Z hnb w (Br hw 2 O lx)) O O O λo lo=>OkE.back (sl sr) (Ao (v:=(vN ((Bd ts).length))) O (AF O underlying125) (Ao O (BU (c:=((((CE ts (3*ts.length)).length:Nat):Int)-((Bd ts).length:Nat))) O O (Ay Z Z)) (Ao O (AQ (c:=(FR ts)) O O (by unfold FR;exact Ay Z Z)) (pS' O (OkE.nil (OkQ.subF (sL [1,2,3,13,14,15] O) (OkQ.then_ (AE.ret (AV O (Ah (v:=(vI (FR ts))) O) (λw hw=>⟨rfl,hw.out⟩)))))))))))
end
end Go.Proofs.YtpgncndhhhllfaaGreat
