import Derived.Test.YtfbomiejpbchdaaGreatPart06
import Derived.Test.YtfbomiejpbchdaaGreatPart24
import Derived.Test.YtfbomiejpbchdaaGreatPart38
import Derived.Test.YtfbomiejpbchdaaGreatPart41
import Derived.Test.YtfbomiejpbchdaaGreatPart45
import Derived.Test.YtfbomiejpbchdaaGreatPart46
namespace Go.Proofs.YtfbomiejpbchdaaGreat
open Go Go.RowKit Go.Proofs.Tryz
set_option linter.unusedVariables false
set_option linter.unusedSimpArgs false
section
set_option maxRecDepth 100000
set_option maxHeartbeats 2000000 in
theorem K0 (m:MQ) (la:List Nat) (ya:RX (Cc la) la.length) (hla8:∀j,la.getD j 0<256) (w:World) {S:Nat->Prop} (hm:Ro S w m) (hya:Ro S w ya):Calls prog 5 #[(aG (Ek m)),(Value.slice ya.p la.length ya.c)] w (Av w (Value.bool true)):=by
 have lm:=EA (W:=w) hm
 have lya:=EA (W:=w) hya
 refine BF (args:=[(aG (Ek m)),(Value.slice ya.p la.length ya.c)]) (L:=[AZ m.p (Cc m.cs),AZ ya.p (Cc la)]) func5 O O (Ab O) (EB hm (EB hya BR)) (AF.subF (sL [0,1] O) (q4 (Bo (cs:=Ek m) O λb1=>AO O (q3 (sL [1,2,4] O) ?_))))
 refine A6 0 NY O (AE.callR (S:=S) (α:=MG) (args:=[(aG (Ek m))]) call11 (λw hw=>Tc m w (DB hw 1 O lm)) O O O λg lg=>?_)
 have hG:=g.good
 have hnb:CN g.ps.length g.ts=true:=RN hG
 have htl:=hG.tl
 have hpl:=hG.pl
 have hne:0<g.ts.length:=List.length_pos_iff.2 hG.ne
 have hz6:∀i,B5 (cor g.ps i)<=1000000:=λi=>Nat.le_trans (hG.sz i) (by decide)
 have hz:∀i,B5 (cor g.ps i)<=1000:=λi=>Nat.le_trans (hG.sz i) (by decide)
 have hsl:=g.sl
 have hel0:(Bq g.ts).length<=3*g.ts.length:=Km g.ts
 refine al Le O λb2=>Aq O sizeOf31 O (q6 (sL [1,4,5] O) (q4 (AR O (AI (v:=(vN la.length)) (AG O underlying22) O ?_))))
 refine AI (Cj (c:=(decide (40<la.length))) O O (C6 (a:=40) (b:=la.length))) O (AR O ?_)
 refine AE.mid (FM:=[(1,(Value.slice ya.p la.length ya.c)),(4,(Value.bool false)),(5,(pP b2 0)),(25,(Value.slice ya.p la.length ya.c)),(26,(vN la.length)),(27,(Value.bool (decide (40<la.length)))),(28,(Value.bool (decide (40<la.length)))),(33,(Value.bool ((decide (40<la.length))||(decide (g.ts.length=0)))))]) (LM:=[Af b2 31 (Bk g.mx),AZ g.mx.a.p (rowsL Aj g.ps),AZ g.mx.b.p (rowsL An g.ts),AZ g.mx.c.p (rowsL An g.ss),Af b1 26 (Ek m),AZ m.p (Cc m.cs),AZ ya.p (Cc la)]) 5 ?_ ?_
 ·rcases Bool.eq_false_or_eq_true (decide (40<la.length)) with hg1|hg1
  ·skip
   refine AE.retell (k:=28) (u:=Value.bool true) O (by rw [hg1]) ?_
   have hg1':=hg1
   replace hg1':=of_decide_eq_true hg1'
   exact AE.skip (AL O) O (Ab O) (AE.skip (AL O) O (Ab O) (AE.skip (AL O) O (Ab O) (AE.skip (AL O) O (Ab O) (AI (v:=(Value.bool true)) (Ah O O) O (AE.nil (AC.mid (sS O (sS O (sS O (sS O (sS O (sS O (sS (by first|rfl|(rw [hg1];rfl)|rw [hg1]) (sS (by first|rfl|(rw [hg1];rfl)|rw [hg1]) (sN))))))))) (List.Sublist.refl _)))))))
  ·skip
   refine AE.retell (k:=28) (u:=Value.bool false) O (by rw [hg1]) ?_
   have hg1':=hg1
   replace hg1':=of_decide_eq_false hg1'
   exact AE.step (v:=(pP b2 1)) (AB O) (AA O underlying31 O sizeOf28 O) O (Ab O) (AE.step (v:=(Value.slice g.mx.b.p g.ts.length g.mx.b.c)) (AB O) (AK (i:=0) (v:=(Value.slice g.mx.b.p g.ts.length g.mx.b.c)) O O CR.a O) O (Ab O) (AE.step (v:=(vN g.ts.length)) (AB O) (AG O underlying28) O (Ab O) (AE.step (v:=(Value.bool (decide (g.ts.length=0)))) (AB O) (BS (c:=(decide (g.ts.length=0))) O O (Ot (a:=g.ts.length) (b:=0))) O (Ab O) (AI (v:=(Value.bool (decide (g.ts.length=0)))) (AS O O) O (AE.nil (AC.mid (sS O (sS O (sS O (sS O (sS O (sS O (sS (by first|rfl|(rw [hg1];rfl)|rw [hg1]) (sS (by first|rfl|(rw [hg1];rfl)|rw [hg1]) (sN))))))))) (List.Sublist.refl _)))))))
 refine AE.nil (AC.subF (sL [1,4,5,33] O) (AC.then_ ?_))
 refine AF.cond O (λhc0=>?_) (λhc0=>?_)
 ·simp only [Bool.and_eq_true,Bool.or_eq_true,Bool.and_eq_false_iff,Bool.or_eq_false_iff,Bool.not_eq_true',Bool.not_eq_false',decide_eq_true_eq,decide_eq_false_iff_not] at hc0
  refine q4 (BW call27 (K9) O (AO O (AE.nil (AC.subF (sL [1,4,5] O) (AC.then_ ?_)))))
  exact AF.ret (AC.then_ret (AT O (Ak (v:=(Value.bool true)) O) (λw hw=>⟨rfl,hw.out⟩)))
 ·simp only [Bool.and_eq_true,Bool.or_eq_true,Bool.and_eq_false_iff,Bool.or_eq_false_iff,Bool.not_eq_true',Bool.not_eq_false',decide_eq_true_eq,decide_eq_false_iff_not] at hc0
  refine AF.skip (q2 (AO O (AE.nilRow 3 1 (AE.nil (q1 ?_)))))
  refine q4 (AO O (AE.nil (AC.then_ (AF.block ?_))))
  refine AF.lp3 (tg λ(i:Nat) (pz1:Option Addr) (cz1:Nat)=>i<=la.length/\OwnOk pz1 (GK la g.ts.length i).length cz1) (tg λ(i:Nat) (pz1:Option Addr) (cz1:Nat)=>[(1,(Value.slice ya.p la.length ya.c)),(4,(Value.bool false)),(5,(pP b2 0)),(7,(vN i)),(6,(Value.slice pz1 ((GK la g.ts.length i).length) cz1))]) (tg λ(i:Nat) (pz1:Option Addr) (cz1:Nat)=>[rowW pz1 3 1 ((GK la g.ts.length i).length) cz1 (zL (GK la g.ts.length i)),Af b2 31 (Bk g.mx),AZ g.mx.a.p (rowsL Aj g.ps),AZ g.mx.b.p (rowsL An g.ts),AZ g.mx.c.p (rowsL An g.ss),Af b1 26 (Ek m),AZ m.p (Cc m.cs),AZ ya.p (Cc la)]) (tg λ(i:Nat) (pz1:Option Addr) (cz1:Nat)=>la.length-i) 0 none 0 (⟨Nat.zero_le _,OwnOk.none⟩) (sF O) sr (λi pz1 cz1 hJ=>?_)
  obtain ⟨hi,ho⟩:=hJ
  have hml:=N1 (n:=g.ts.length) (show i<=la.length by omega)
  refine AF.seq (q4 (AR O (AR O (AI (v:=(vN la.length)) (AG O underlying22) O (AI (Am (c:=(decide (i<la.length))) O O (C6 (a:=i) (b:=la.length))) O ?_)))))
  refine AE.nil (AC.subF (sL [1,4,5,7,6,38] O) (AC.then_ ?_))
  refine AF.cond O (λhc1=>?_) (λhc1=>?_)
  ·replace hc1:=of_decide_eq_true hc1
   have h256:=hla8 i
   refine AF.skip (q1 (AF.block (Cu [(0,true),(1,true),(2,true),(3,true),(4,true),(5,true),(6,true),(7,true),(8,true),(9,true),(10,false),(11,false),(12,true)] (sl sr) (Bf O (Bf O ?_)))))
   refine Bf O (Ax (v:=(pP (pB ya.p) (pO ya.p+i*1))) O (AQ (j:=i) O O ya.ok underlying22 sizeOf5 O Z) (Ax O (Ai (v:=(vK .u8 (la.getD i 0))) (i:=6) O O (ya.ok.ne Z) SY (OY Z)) (Ax O (A9 (c:=((la.getD i 0:Nat):Int)) O underlying5 underlying3 (CW Z)) (Ax (v:=(pP b2 1)) O (AA O underlying31 O sizeOf28 O) (Bj 0 (Value.slice g.mx.b.p g.ts.length g.mx.b.c) CR O ?_)))))
   refine Ax (v:=(vN g.ts.length)) O (AG O underlying28) (Ax O (CC (c:=(((la.getD i 0)%g.ts.length:Nat):Int)) O O Z (H2 (a:=la.getD i 0) (b:=g.ts.length))) (AV.imp O (AE.openV (V:=λb3=>(Value.slice (some ⟨b3,0,none⟩) 1 1)) (T:=3) (cs:=[(vN ((la.getD i 0)%g.ts.length))]) (AM O) (Ap (cs:=[(vN ((la.getD i 0)%g.ts.length))]) (pv:=[(0,(vN ((la.getD i 0)%g.ts.length)))]) underlying33 sizeOf3 zeroValue3 (by decide) (by decide) O (by kernel_rfl)) O (Ab O) λb3=>AV.back (sl (sl sr)) (AV.imp O ?_))))
   refine AE.append1 (j:=0) (cs2:=zL ((GK la g.ts.length i)++[(((la.getD i 0)%g.ts.length:Nat):Int)])) PZ O ho (by rw [MI,Nat.mul_one]) O O O O (by decide) (Gt Z) Z (by rw [ST];rfl) O λp_1 c_1 ho_1 hne_1=>AV.back (sl (sl sr)) (Ev O (AV.nil (AC.subF (sL [1,4,5,7,6] O) (AC.in_normal ?_))))
   refine AC.then_ (AF.region (AR O (AI (AY (c:=((i+1:Nat):Int)) O O (AX (a:=i) (b:=1) Z)) O (AO O (AE.nil ?_)))))
   refine AC.subF (sL [1,4,5,7,6] O) ?_
   rw [show (GK la g.ts.length i).length+1=((GK la g.ts.length i)++[(((la.getD i 0)%g.ts.length:Nat):Int)]).length by simp,show (GK la g.ts.length i)++[(((la.getD i 0)%g.ts.length:Nat):Int)]=GK la g.ts.length (i+1) from (L7 Z).symm]
   exact AC.round3 (i+1) p_1 c_1 (⟨Z,(by rw [L7 Z];simpa using ho_1)⟩) Z (sF O) (sl sr)
  ·replace hc1:=of_decide_eq_false hc1
   obtain ⟨xa,hxla⟩:∃q,q=GK la g.ts.length la.length:=⟨_,rfl⟩
   rw [show GK la g.ts.length i=xa by rw [hxla,show i=la.length by omega]] at ho
   have hola:=ho
   have hmla:xa.length=la.length:=by rw [hxla];exact N1 (Nat.le_refl _)
   rw [show GK la g.ts.length i=xa by rw [hxla,show i=la.length by omega]]
   have hmg:∀j,j<la.length->xa.getD j 0=((la.getD j 0%g.ts.length:Nat):Int):=by rw [hxla];exact λj hj=>T7 hj
   have hmr:∀j,j<xa.length->0<=xa.getD j 0/\xa.getD j 0<(g.ts.length:Int):=λj hj=>by rw [hmg j Z];have:=Nat.mod_lt (la.getD j 0) hne;omega
   refine AF.exit (AC.then_exit (AC.round3_exit (AC.in_exit (q2 (A6 1 C9 O ?_)))))
   refine AR O (AE.frzRow 0 O hola (by rw [MI,Nat.mul_one]) O O λhn_ON=>bA (S:=S) (args:=[(aG (Bk g.mx)),(Value.slice pz1 xa.length cz1)]) call28 (λw hw=>Ir g.mx xa ⟨pz1,cz1,hola.row⟩ hnb hz6 Z Z hmr ⟨Z,Z⟩ w (DB hw 2 O lg:Ro _ w g.mx) (DB hw 0 O (At.new hn_ON))) O λbs lbs hmbs hqbs=>?_)
   have D:F9 g.ps g.ts g.ss bs.l xa:=⟨hG,hnb,g.sd,⟨bs.p,bs.el,bs.all⟩⟩
   have hck:=XH D
   unfold EC at hck
   have hql:(Bp (BE g.ps.length bs.l bs.l.length) g.ts g.ts.length).length=(Et (BE g.ps.length bs.l bs.l.length) g.ts).length:=by rw [Jj _ (Nat.le_refl _),H4]
   have hq8:=hck.tl
   refine AR O (AI (AU (v:=(aG (Bk bs.x.m))) O O) O (AI (AU (v:=(Value.slice bs.x.q.p ((Bp (BE g.ps.length bs.l bs.l.length) g.ts g.ts.length).length) bs.x.q.c)) O O) O (AI (AU (v:=(vI 0)) O O) O (al Le O λb3=>Aq O sizeOf31 O ?_))))
   refine AO O (AO O (q6 (sL [1,4,5,7,6,8,9,10] O) (AF.seq (Cu [(0,true),(1,true),(2,true),(3,true),(4,false),(5,true),(6,true),(7,true),(8,true),(10,true),(9,false),(11,false),(12,true),(13,true),(14,true),(15,true),(16,true),(17,true),(18,true),(19,true),(20,true),(21,true)] sr (Bf O ?_)))))
   refine Ax O (CL (c:=false) O O (decide_eq_false Z)) (Bf O (AV.pas (v:=(aG (Bk bs.x.m))) O (AB O) (Ac (i:=0) (vs:=Bk bs.x.m) O O C9.a C9.s O O) O O (AV.imp O (AE.call (v:=(vI 0)) (AB O) (A8 (args:=[(aG (Bk bs.x.m))]) O O call19) (λw hw=>TB bs.x.m hck w (DB hw 1 O hmbs)) O (Ab O) (AV.back sr ?_)))))
   refine AV.pas (v:=(Value.bool false)) O (AB O) (CL (c:=false) O O (decide_eq_false Z)) O O (Ax (v:=(Value.bool false)) O (AS O O) (Bf O (AV.pas (v:=(aG (Bk bs.x.m))) O (AB O) (Ac (i:=0) (vs:=Bk bs.x.m) O O C9.a C9.s O O) O O (AV.pas (v:=(aG (Bk g.mx))) O (AB O) (Ac (i:=6) (vs:=Bk g.mx) O O C9.a C9.s O O) O O (AV.imp O ?_)))))
   refine AE.call (v:=(aG (AH (GB (Dn g.ps bs.l) (Et (BE g.ps.length bs.l bs.l.length) g.ts) (Et (BE g.ps.length bs.l bs.l.length) g.ts).length)))) (AB O) (A8 (args:=[(aG (Bk bs.x.m))]) O O call20) (λw hw=>OZ bs.x.m hck.tl hck.sz hck.num w (DB hw 1 O hmbs)) O (Ab O) (AV.back sr (AV.imp O (AE.call (v:=(aG (AH (GB g.ps g.ts g.ts.length)))) (AB O) (A8 (args:=[(aG (Bk g.mx))]) O O call20) (λw hw=>OZ g.mx Z hz hnb w (DB hw 7 O lg:Ro _ w g.mx)) O (Ab O) (AV.back sr (AV.pas (v:=(Value.bool false)) O (AB O) (Cy O O eqGuardType53 (Dm 9995 (Si D))) O O ?_)))))
   refine Ax (v:=(Value.bool false)) O (AS O O) (Bf O (AV.pas (v:=(Value.slice bs.x.q.p ((Bp (BE g.ps.length bs.l bs.l.length) g.ts g.ts.length).length) bs.x.q.c)) O (AB O) (BA O) O O (AV.pas (v:=(vN ((Bp (BE g.ps.length bs.l bs.l.length) g.ts g.ts.length).length))) O (AB O) (AG O underlying33) O O (AV.pas (v:=(pP b3 1)) O (AB O) (AA O underlying31 O sizeOf28 O) O O (AV.pas (v:=(Value.slice bs.x.m.b.p ((Et (BE g.ps.length bs.l bs.l.length) g.ts).length) bs.x.m.b.c)) O (AB O) (AK (i:=0) (v:=(Value.slice bs.x.m.b.p ((Et (BE g.ps.length bs.l bs.l.length) g.ts).length) bs.x.m.b.c)) O O CR.a O) O O ?_)))))
   refine AV.pas (v:=(vN ((Et (BE g.ps.length bs.l bs.l.length) g.ts).length))) O (AB O) (AG O underlying28) O O (AV.pas (v:=(Value.bool false)) O (AB O) (CL (c:=false) O O (decide_eq_false Z)) O O (Ax (v:=(Value.bool false)) O (AS O O) (AV.nil (AC.subF (sL [1,4,5,7,6,8,9,81] O) (AC.then_ ?_)))))
   refine AF.cond_false O (AF.skip (q2 (AI (v:=(pP b2 1)) (AA O underlying31 O sizeOf28 O) O (BK 6 (Value.slice g.mx.b.p g.ts.length g.mx.b.c) CR O (AI (v:=(vN g.ts.length)) (AG O underlying28) O ?_)))))
   refine AE.makeNat (m:=g.ts.length) aK O O Z O O ?_;intro bm hbm;rw [SI (Bp (BE g.ps.length bs.l bs.l.length) g.ts g.ts.length) g.ts.length]
   refine AO O (q6 (sL [1,4,5,7,6,8,9,11] O) (q4 (AO O (AE.nil (AC.then_ ?_)))))
   refine AF.block ?_
   refine AF.lp1 (tg λ(t:Nat)=>t<=(Bp (BE g.ps.length bs.l bs.l.length) g.ts g.ts.length).length) (tg λ(t:Nat)=>[(5,(pP b2 0)),(6,(Value.slice pz1 xa.length cz1)),(8,(pP b3 0)),(9,(Value.slice bs.x.q.p ((Bp (BE g.ps.length bs.l bs.l.length) g.ts g.ts.length).length) bs.x.q.c)),(11,(Value.slice (some ⟨bm,0,none⟩) g.ts.length g.ts.length)),(12,(vN t))]) (tg λ(t:Nat)=>[rowW (some ⟨bm,0,none⟩) 3 1 g.ts.length g.ts.length (inL (Ea (Bp (BE g.ps.length bs.l bs.l.length) g.ts g.ts.length) g.ts.length t)),Af b3 31 (Bk bs.x.m),AZ bs.x.m.a.p (rowsL Aj (Dn g.ps bs.l)),AZ bs.x.m.b.p (rowsL An (Et (BE g.ps.length bs.l bs.l.length) g.ts)),AZ bs.x.m.c.p (rowsL An (IA g.ps.length g.ss bs.l (Et (BE g.ps.length bs.l bs.l.length) g.ts))),AZ bs.x.q.p (inL (Bp (BE g.ps.length bs.l bs.l.length) g.ts g.ts.length)),AZ pz1 (zL xa),Af b2 31 (Bk g.mx),AZ g.mx.a.p (rowsL Aj g.ps),AZ g.mx.b.p (rowsL An g.ts),AZ g.mx.c.p (rowsL An g.ss),Af b1 26 (Ek m),AZ m.p (Cc m.cs),AZ ya.p (Cc la)]) (tg λ(t:Nat)=>(Bp (BE g.ps.length bs.l bs.l.length) g.ts g.ts.length).length-t) 0 (Nat.zero_le _) (sF O) sr (λt hJ=>?_)
   have htl1:=hJ
   refine AF.seq (q4 (AR O (AR O (AI (v:=(vN ((Bp (BE g.ps.length bs.l bs.l.length) g.ts g.ts.length).length))) (AG O underlying33) O (AI (Am (c:=(decide (t<((Bp (BE g.ps.length bs.l bs.l.length) g.ts g.ts.length).length)))) O O (C6 (a:=t) (b:=(Bp (BE g.ps.length bs.l bs.l.length) g.ts g.ts.length).length))) O ?_)))))
   refine AE.nil (AC.subF (sL [5,6,8,9,11,12,89] O) (AC.then_ ?_))
   refine AF.cond O (λhc3=>?_) (λhc3=>?_)
   ·replace hc3:=of_decide_eq_true hc3
    have ht9:t<(Et (BE g.ps.length bs.l bs.l.length) g.ts).length:=by omega
    have hRR:=Wd D ht9
    unfold EC at hRR
    obtain ⟨hkt,hR⟩:=hRR
    have htL:=hc3
    have hcpl:=EZ (Bp (BE g.ps.length bs.l bs.l.length) g.ts g.ts.length) g.ts.length t
    have hcl:=W3 (l:=Bp (BE g.ps.length bs.l bs.l.length) g.ts g.ts.length) (T:=g.ts.length) (i:=t) (k:=(Bp (BE g.ps.length bs.l bs.l.length) g.ts g.ts.length).getD t 0)
    obtain ⟨a,ha⟩:∃q,q=cor g.ps (g.ts.getD ((Bp (BE g.ps.length bs.l bs.l.length) g.ts g.ts.length).getD t 0) (0,0,0)).1:=⟨_,rfl⟩
    obtain ⟨b,hb⟩:∃q,q=cor g.ps (g.ts.getD ((Bp (BE g.ps.length bs.l bs.l.length) g.ts g.ts.length).getD t 0) (0,0,0)).2.1:=⟨_,rfl⟩
    obtain ⟨d,hd⟩:∃q,q=cor g.ps (g.ts.getD ((Bp (BE g.ps.length bs.l bs.l.length) g.ts g.ts.length).getD t 0) (0,0,0)).2.2:=⟨_,rfl⟩
    obtain ⟨p0,hp0⟩:∃q,q=cor (Dn g.ps bs.l) ((Et (BE g.ps.length bs.l bs.l.length) g.ts).getD t (0,0,0)).1:=⟨_,rfl⟩
    obtain ⟨p1,hp1⟩:∃q,q=cor (Dn g.ps bs.l) ((Et (BE g.ps.length bs.l bs.l.length) g.ts).getD t (0,0,0)).2.1:=⟨_,rfl⟩
    obtain ⟨p2,hp2⟩:∃q,q=cor (Dn g.ps bs.l) ((Et (BE g.ps.length bs.l bs.l.length) g.ts).getD t (0,0,0)).2.2:=⟨_,rfl⟩
    have sa:B5 a<=1000:=by rw [ha];exact hz _
    have sb:B5 b<=1000:=by rw [hb];exact hz _
    have sd:B5 d<=1000:=by rw [hd];exact hz _
    have sp0:B5 p0<=1000:=by rw [hp0];exact hck.sz _
    have sp1:B5 p1<=1000:=by rw [hp1];exact hck.sz _
    have sp2:B5 p2<=1000:=by rw [hp2];exact hck.sz _
    rw [<-ha,<-hb,<-hd,<-hp0,<-hp1,<-hp2] at hR
    have r0:=hR.w0
    have r1:=hR.w1
    have r2:=hR.w2
    have hsh:=Jz
    refine AF.skip (q1 (AF.block (AF.seq (AF.seq ?_))))
    by_cases k0:0<t
    ·skip
     refine Cu [(0,true),(1,true),(2,true),(3,true),(4,true),(5,true),(6,true),(7,true),(8,true),(9,true),(10,true),(11,true),(12,true),(13,true),(14,true),(15,true),(16,true),(17,true),(18,true),(19,true),(20,true),(21,true),(22,true),(23,true),(24,true),(25,true),(26,true),(27,true),(28,true),(29,true),(30,true)] sr (Bf O (Bf O (Ax (v:=(pP (pB bs.x.q.p) (pO bs.x.q.p+t*1))) O (AQ (j:=t) O O bs.x.q.ok underlying33 sizeOf3 O Z) (Ax O (Ai (v:=(vN ((Bp (BE g.ps.length bs.l bs.l.length) g.ts g.ts.length).getD t 0))) (i:=5) O O (bs.x.q.ok.ne Z) Bm (Co (l:=Bp (BE g.ps.length bs.l bs.l.length) g.ts g.ts.length) (j:=t) Z)) (Ax O (Am (c:=false) O O (decide_eq_false Z)) ?_)))))
     refine Bf O (AV.pas (v:=(Value.slice bs.x.q.p ((Bp (BE g.ps.length bs.l bs.l.length) g.ts g.ts.length).length) bs.x.q.c)) O (AB O) (BA O) O O (AV.pas (v:=(vN t)) O (AB O) (BA O) O O (AV.pas (v:=(pP (pB bs.x.q.p) (pO bs.x.q.p+t*1))) O (AB O) (AQ (j:=t) O O bs.x.q.ok underlying33 sizeOf3 O Z) O O (AV.pas (v:=(vN ((Bp (BE g.ps.length bs.l bs.l.length) g.ts g.ts.length).getD t 0))) O (AB O) (Ai (v:=(vN ((Bp (BE g.ps.length bs.l bs.l.length) g.ts g.ts.length).getD t 0))) (i:=5) O O (bs.x.q.ok.ne Z) Bm (Co (l:=Bp (BE g.ps.length bs.l bs.l.length) g.ts g.ts.length) (j:=t) Z)) O O (AV.pas (v:=(pP b2 1)) O (AB O) (AA O underlying31 O sizeOf28 O) O O ?_)))))
     refine AV.pas (v:=(Value.slice g.mx.b.p g.ts.length g.mx.b.c)) O (AB O) (AK (i:=7) (v:=(Value.slice g.mx.b.p g.ts.length g.mx.b.c)) O O CR.a O) O O (AV.pas (v:=(vN g.ts.length)) O (AB O) (AG O underlying28) O O (AV.pas (v:=(Value.bool false)) O (AB O) (DD (c:=false) O O (decide_eq_false Z)) O O (Ax (v:=(Value.bool false)) O (AS O O) (Bf O (AV.pas (v:=(vN t)) O (AB O) (BA O) O O ?_)))))
     refine AV.pas (v:=(Value.bool true)) O (AB O) (Cj (c:=true) O O (decide_eq_true Z)) O O (AV.pas (v:=(Value.bool true)) O (AB O) (BA O) O O (AV.pas (v:=(Value.slice bs.x.q.p ((Bp (BE g.ps.length bs.l bs.l.length) g.ts g.ts.length).length) bs.x.q.c)) O (AB O) (BA O) O O (AV.pas (v:=(vN t)) O (AB O) (BA O) O O (AV.pas (v:=(pP (pB bs.x.q.p) (pO bs.x.q.p+t*1))) O (AB O) (AQ (j:=t) O O bs.x.q.ok underlying33 sizeOf3 O Z) O O (AV.pas (v:=(vN ((Bp (BE g.ps.length bs.l bs.l.length) g.ts g.ts.length).getD t 0))) O (AB O) (Ai (v:=(vN ((Bp (BE g.ps.length bs.l bs.l.length) g.ts g.ts.length).getD t 0))) (i:=5) O O (bs.x.q.ok.ne Z) Bm (Co (l:=Bp (BE g.ps.length bs.l bs.l.length) g.ts g.ts.length) (j:=t) Z)) O O ?_)))))
     refine AV.pas (v:=(Value.slice bs.x.q.p ((Bp (BE g.ps.length bs.l bs.l.length) g.ts g.ts.length).length) bs.x.q.c)) O (AB O) (BA O) O O (AV.pas (v:=(vN t)) O (AB O) (BA O) O O (AV.pas (v:=(vN (t-1))) O (AB O) (Br (c:=((t-1:Nat):Int)) O O (Ch (a:=t) (b:=1) Z Z)) O O (AV.pas (v:=(pP (pB bs.x.q.p) (pO bs.x.q.p+(t-1)*1))) O (AB O) (AQ (j:=t-1) O O bs.x.q.ok underlying33 sizeOf3 O Z) O O (AV.pas (v:=(vN ((Bp (BE g.ps.length bs.l bs.l.length) g.ts g.ts.length).getD (t-1) 0))) O (AB O) (Ai (v:=(vN ((Bp (BE g.ps.length bs.l bs.l.length) g.ts g.ts.length).getD (t-1) 0))) (i:=5) O O (bs.x.q.ok.ne Z) Bm (Co (l:=Bp (BE g.ps.length bs.l bs.l.length) g.ts g.ts.length) (j:=t-1) Z)) O O (AV.pas (v:=(Value.bool false)) O (AB O) (Am (c:=false) O O (decide_eq_false (by have h9:=ZC D k0 htL;unfold EC at h9;omega))) O O ?_)))))
     refine AV.pas (v:=(Value.bool false)) O (AB O) (Ah O O) O O (Ax (v:=(Value.bool false)) O (AS O O) (AV.nil (AC.subF (sL [5,6,8,9,11,12,122] O) (AC.then_ (AF.cond_false O ?_)))))
     refine AF.skip (q2 (AR O (AR O (AR O (AI (v:=(pP (pB bs.x.q.p) (pO bs.x.q.p+t*1))) (AQ (j:=t) O O bs.x.q.ok underlying33 sizeOf3 O Z) O ?_)))))
     refine AI (Ai (v:=(vN ((Bp (BE g.ps.length bs.l bs.l.length) g.ts g.ts.length).getD t 0))) (i:=5) O O (bs.x.q.ok.ne Z) Bm (Co (l:=Bp (BE g.ps.length bs.l bs.l.length) g.ts g.ts.length) (j:=t) Z)) O (AI (v:=(pP (pB (some ⟨bm,0,none⟩)) (pO (some ⟨bm,0,none⟩)+((Bp (BE g.ps.length bs.l bs.l.length) g.ts g.ts.length).getD t 0)*1))) (AQ (j:=(Bp (BE g.ps.length bs.l bs.l.length) g.ts g.ts.length).getD t 0) O O hbm.row underlying33 sizeOf3 O Z) O (AI (EI (v:=(vN ((Ea (Bp (BE g.ps.length bs.l bs.l.length) g.ts g.ts.length) g.ts.length t).getD ((Bp (BE g.ps.length bs.l bs.l.length) g.ts g.ts.length).getD t 0) 0))) (i:=0) O O hbm (by rw [CP,Nat.mul_one];simp [EZ]) (hbm.row.ne Z) Bm (Co (l:=Ea (Bp (BE g.ps.length bs.l bs.l.length) g.ts g.ts.length) g.ts.length t) (j:=(Bp (BE g.ps.length bs.l bs.l.length) g.ts g.ts.length).getD t 0) Z)) O (AI (AY (c:=((((Ea (Bp (BE g.ps.length bs.l bs.l.length) g.ts g.ts.length) g.ts.length t).getD ((Bp (BE g.ps.length bs.l bs.l.length) g.ts g.ts.length).getD t 0) 0)+1:Nat):Int)) O O (AX (a:=(Ea (Bp (BE g.ps.length bs.l bs.l.length) g.ts g.ts.length) g.ts.length t).getD ((Bp (BE g.ps.length bs.l bs.l.length) g.ts g.ts.length).getD t 0) 0) (b:=1) Z)) O (AI (v:=(pP (pB (some ⟨bm,0,none⟩)) (pO (some ⟨bm,0,none⟩)+((Bp (BE g.ps.length bs.l bs.l.length) g.ts g.ts.length).getD t 0)*1))) (AQ (j:=(Bp (BE g.ps.length bs.l bs.l.length) g.ts g.ts.length).getD t 0) O O hbm.row underlying33 sizeOf3 O Z) O (AE.storeRow0 (j:=(Bp (BE g.ps.length bs.l bs.l.length) g.ts g.ts.length).getD t 0) (v:=(vN (((Ea (Bp (BE g.ps.length bs.l bs.l.length) g.ts g.ts.length) g.ts.length t).getD ((Bp (BE g.ps.length bs.l bs.l.length) g.ts g.ts.length).getD t 0) 0)+1))) O O hbm (by rw [CP,Nat.mul_one];simp [EZ]) Z O sizeOf3 O (Oe _ _ _) ?_)))))
     refine q6 (sL [5,6,8,9,11,12] O) (rN [(0,true),(1,true),(2,true),(3,true),(4,true),(5,false),(6,true),(7,true),(8,true),(9,true)] [⟨10,13,55,Aj (⟨0,0⟩:Pt)⟩,⟨11,14,55,Aj (⟨0,0⟩:Pt)⟩,⟨12,15,55,Aj (⟨0,0⟩:Pt)⟩] [(13,false),(14,false),(15,false)] sr (by kernel_rfl) (λ_ _ d _ _ h=>by cases d<;>exact h) (Fb O O Dq O (Fb O O Dq O (Fb O O Dq O (IU)))) O (H0 7 C9 O (Ll O (Ll O (GA (v:=(pP (pB bs.x.q.p) (pO bs.x.q.p+t*1))) O (AQ (j:=t) O O bs.x.q.ok underlying33 sizeOf3 O Z) O ?_)))))
     refine GA O (Ai (v:=(vN ((Bp (BE g.ps.length bs.l bs.l.length) g.ts g.ts.length).getD t 0))) (i:=5) O O (bs.x.q.ok.ne Z) Bm (Co (l:=Bp (BE g.ps.length bs.l bs.l.length) g.ts g.ts.length) (j:=t) Z)) O (CS.imp O λEF EL=>Ew (args:=[(aG (Bk g.mx)),(vN ((Bp (BE g.ps.length bs.l bs.l.length) g.ts g.ts.length).getD t 0))]) (v:=(Value.tuple #[(aG (Aj a)),(aG (Aj b)),(aG (Aj d))])) call21 (λw hw=>(by rw [ha,hb,hd];exact FK g.mx ((Bp (BE g.ps.length bs.l bs.l.length) g.ts g.ts.length).getD t 0) hkt (CU hnb hkt) w (DB hw 8 O lg:Ro _ w g.mx))) O (CS.back0 sr O (Ll O (GA O (AU (v:=(aG (Aj a))) O O) O ?_))))
     refine GA O (AU (v:=(aG (Aj b))) O O) O (GA O (AU (v:=(aG (Aj d))) O O) O (CS.news3 λb4 b5 b6=>AV.imp O (Aq O sizeOf55 O (AV.back (sl (sl (sl sr))) ?_))))
     refine AV.imp O (Cq O sizeOf55 O (AV.back (sl (sl (sl sr))) (AV.imp O (Kz O sizeOf55 O (AV.back (sl (sl (sl sr))) ?_)))))
     refine AV.nil (AC.subF (sL [5,6,8,9,11,12,15,14,13] O) (q2 (A6 4 C9 O (AR O (Ew (args:=[(aG (Bk bs.x.m)),(vN t)]) (v:=(Value.tuple #[(aG (Aj p0)),(aG (Aj p1)),(aG (Aj p2))])) call21 (λw hw=>(by rw [hp0,hp1,hp2];exact FK bs.x.m t Z (CU hck.num Z) w (DB hw 5 O hmbs))) O ?_)))))
     refine AR O (AI (AU (v:=(aG (Aj p0))) O O) O (AI (AU (v:=(aG (Aj p1))) O O) O (AI (AU (v:=(aG (Aj p2))) O O) O (al Dq O λb7=>al Dq O λb8=>?_))))
     refine al Dq O λb9=>Kz O sizeOf55 O (Cq O sizeOf55 O (Aq O sizeOf55 O (q6 (sL [5,6,8,9,11,12,15,14,13,16,17,18] O) (q4 ?_))))
     refine A6 3 BG O (A6 4 BG O (A6 5 BG O (A6 2 BG O (BW call22 (Hz a b d p0 Z) O (AI (BS (c:=false) O O (decide_eq_false Z)) O ?_)))))
     refine AR O (AE.step (v:=(aG (Aj a))) (AB O) (Ac (i:=3) (vs:=Aj a) O O BG.a BG.s O O) O (Ab O) (AE.step (v:=(aG (Aj b))) (AB O) (Ac (i:=4) (vs:=Aj b) O O BG.a BG.s O O) O (Ab O) (AE.step (v:=(aG (Aj d))) (AB O) (Ac (i:=5) (vs:=Aj d) O O BG.a BG.s O O) O (Ab O) (AE.step (v:=(aG (Aj p1))) (AB O) (Ac (i:=1) (vs:=Aj p1) O O BG.a BG.s O O) O (Ab O) (AE.call (v:=(vN (FP a b d p1))) (AB O) (A8 (args:=[(aG (Aj a)),(aG (Aj b)),(aG (Aj d)),(aG (Aj p1))]) O O call22) (λw hw=>Hz a b d p1 Z w) O (Ab O) ?_)))))
     refine AE.step (v:=(Value.bool false)) (AB O) (BS (c:=false) O O (decide_eq_false Z)) O (Ab O) (AI (v:=(Value.bool false)) (AS O O) O (AR O (AE.step (v:=(aG (Aj a))) (AB O) (Ac (i:=3) (vs:=Aj a) O O BG.a BG.s O O) O (Ab O) (AE.step (v:=(aG (Aj b))) (AB O) (Ac (i:=4) (vs:=Aj b) O O BG.a BG.s O O) O (Ab O) (AE.step (v:=(aG (Aj d))) (AB O) (Ac (i:=5) (vs:=Aj d) O O BG.a BG.s O O) O (Ab O) ?_)))))
     refine AE.step (v:=(aG (Aj p2))) (AB O) (Ac (i:=0) (vs:=Aj p2) O O BG.a BG.s O O) O (Ab O) (AE.call (v:=(vN (FP a b d p2))) (AB O) (A8 (args:=[(aG (Aj a)),(aG (Aj b)),(aG (Aj d)),(aG (Aj p2))]) O O call22) (λw hw=>Hz a b d p2 Z w) O (Ab O) (AE.step (v:=(Value.bool false)) (AB O) (BS (c:=false) O O (decide_eq_false Z)) O (Ab O) (AI (v:=(Value.bool false)) (AS O O) O (AE.nil (AC.subF (sL [5,6,8,9,11,12,15,14,13,16,17,18,170] O) ?_)))))
     refine AC.then_ (AF.cond_false O (AF.skip (q2 (A6 3 BG O (A6 4 BG O ?_)))))
     refine A6 5 BG O ?_
     have hz1:=C1 a b d
     have hz2:=DM (AJ a b d) (1/2)
     refine BW call26 (IR a b d Z) O (al DL O λb10=>Aq O sizeOf53 O (q3 (sL [5,6,8,9,11,12,15,14,13,16,17,18,19] O) (A6 3 BG O (A6 2 BG O ?_))))
     refine A6 1 BG O ?_
     have hz3:=C1 p0 p1 p2
     have hz4:=DM (AJ p0 p1 p2) (1/2)
     refine BW call26 (IR p0 p1 p2 Z) O (al DL O λb11=>Aq O sizeOf53 O (q3 (sL [5,6,8,9,11,12,15,14,13,16,17,18,19,20] O) (A6 0 BP O (A6 0 BP O ?_))))
     have hz5:=FS (AJ p0 p1 p2*(1/2)) (AJ p0 p1 p2*(1/2))
     refine BW call29 (Fi (AJ p0 p1 p2*(1/2)) (AJ p0 p1 p2*(1/2)) (by (try simp only [Dc]);omega)) O (al DL O λb12=>Aq O sizeOf53 O (q6 (sL [5,6,8,9,11,12,15,14,13,16,17,18,19,20,21] O) ?_))
     by_cases k1:AJ p0 p1 p2*(1/2)=AJ a b d*(1/2)
     ·skip
      refine Cu [(0,true),(1,true),(2,true),(3,true),(4,true),(5,true),(6,true),(7,true),(8,true),(9,true),(10,true),(12,true),(11,false),(13,true),(14,true)] sr (EW 1 BP O (EW 2 BP O (Ax (v:=(Value.bool false)) O (Cy O O eqGuardType53 (Dm 9995 k1)) (Bf O (AV.skp O (AL O) O O ?_)))))
      refine AV.skp O (AL O) O O (AV.skp O (AL O) O O (Ax (v:=(Value.bool false)) O (AS O O) (Bf O (AV.skp O (AL O) O O (AV.skp O (AL O) O O ?_)))))
      refine AV.skp O (AL O) O O (AV.imp O (AE.skip (AL O) O (Ab O) (AV.back sr (AV.skp O (AL O) O O (Ax (v:=(Value.bool false)) O (AS O O) ?_)))))
      refine AV.nil (AC.subF (sL [5,6,8,9,11,12,15,14,13,16,17,18,19,20,21,196] O) (AC.then_ (AF.cond_false O (AF.skip (AC.in_normal ?_)))))
      refine AC.then_ (AF.region (AR O (AI (AY (c:=((t+1:Nat):Int)) O O (AX (a:=t) (b:=1) Z)) O (AO O (AE.nil ?_)))))
      refine AC.subF (sL [5,6,8,9,11,12,15,14,13,16,17,18,19,20,21] O) ?_
      rw [FB Z hkt]
      exact AC.round1 (t+1) Z Z (sF O) (sl (sl (sl (sl (sl (sl (sl (sl (sl sr)))))))))
     ·skip
      by_cases k2:(AJ p0 p1 p2*(1/2))+(AJ p0 p1 p2*(1/2))=AJ a b d*(1/2)
      ·skip
       refine Cu [(0,true),(1,true),(2,true),(3,true),(4,true),(5,true),(6,true),(7,true),(8,true),(9,true),(10,true),(12,true),(11,false),(13,true),(14,true)] sr (EW 1 BP O (EW 2 BP O (Ax O (DY (c:=decide (AJ p0 p1 p2*(1/2)=AJ a b d*(1/2))) O O eqGuardType53 (D4 9995 (AJ p0 p1 p2*(1/2)) (AJ a b d*(1/2))) (congrArg not (decide_eq_false k1))) (Bf O (AV.pas (v:=(aG (AH ((AJ p0 p1 p2*(1/2))+(AJ p0 p1 p2*(1/2)))))) O (AB O) (Ac (i:=0) (vs:=AH ((AJ p0 p1 p2*(1/2))+(AJ p0 p1 p2*(1/2)))) O O BP.a BP.s O O) O O ?_)))))
       refine AV.pas (v:=(aG (AH (AJ a b d*(1/2))))) O (AB O) (Ac (i:=2) (vs:=AH (AJ a b d*(1/2))) O O BP.a BP.s O O) O O (AV.pas (v:=(Value.bool false)) O (AB O) (Cy O O eqGuardType53 (Dm 9995 k2)) O O (Ax (v:=(Value.bool false)) O (Ah O O) (Bf O (AV.skp O (AL O) O O (AV.skp O (AL O) O O ?_)))))
       refine AV.skp O (AL O) O O (AV.imp O (AE.skip (AL O) O (Ab O) (AV.back sr (AV.skp O (AL O) O O (Ax (v:=(Value.bool false)) O (AS O O) ?_)))))
       refine AV.nil (AC.subF (sL [5,6,8,9,11,12,15,14,13,16,17,18,19,20,21,196] O) (AC.then_ (AF.cond_false O (AF.skip (AC.in_normal ?_)))))
       refine AC.then_ (AF.region (AR O (AI (AY (c:=((t+1:Nat):Int)) O O (AX (a:=t) (b:=1) Z)) O (AO O (AE.nil ?_)))))
       refine AC.subF (sL [5,6,8,9,11,12,15,14,13,16,17,18,19,20,21] O) ?_
       rw [FB Z hkt]
       exact AC.round1 (t+1) Z Z (sF O) (sl (sl (sl (sl (sl (sl (sl (sl (sl sr)))))))))
      ·skip
       refine Cu [(0,true),(1,true),(2,true),(3,true),(4,true),(5,true),(6,true),(7,true),(8,true),(9,true),(10,true),(12,true),(11,false),(13,true),(14,true)] sr (EW 1 BP O (EW 2 BP O (Ax O (DY (c:=decide (AJ p0 p1 p2*(1/2)=AJ a b d*(1/2))) O O eqGuardType53 (D4 9995 (AJ p0 p1 p2*(1/2)) (AJ a b d*(1/2))) (congrArg not (decide_eq_false k1))) (Bf O (AV.pas (v:=(aG (AH ((AJ p0 p1 p2*(1/2))+(AJ p0 p1 p2*(1/2)))))) O (AB O) (Ac (i:=0) (vs:=AH ((AJ p0 p1 p2*(1/2))+(AJ p0 p1 p2*(1/2)))) O O BP.a BP.s O O) O O ?_)))))
       refine AV.pas (v:=(aG (AH (AJ a b d*(1/2))))) O (AB O) (Ac (i:=2) (vs:=AH (AJ a b d*(1/2))) O O BP.a BP.s O O) O O (AV.pas (v:=(Value.bool true)) O (AB O) (DY (c:=decide ((AJ p0 p1 p2*(1/2))+(AJ p0 p1 p2*(1/2))=AJ a b d*(1/2))) O O eqGuardType53 (D4 9995 ((AJ p0 p1 p2*(1/2))+(AJ p0 p1 p2*(1/2))) (AJ a b d*(1/2))) (congrArg not (decide_eq_false k2))) O O (Ax (v:=(Value.bool true)) O (Ah O O) (Bf O (AV.pas (v:=(aG (AH ((AJ p0 p1 p2*(1/2))+(AJ p0 p1 p2*(1/2)))))) O (AB O) (Ac (i:=0) (vs:=AH ((AJ p0 p1 p2*(1/2))+(AJ p0 p1 p2*(1/2)))) O O BP.a BP.s O O) O O (AV.pas (v:=(aG (AH ((AJ p0 p1 p2*(1/2))+(AJ p0 p1 p2*(1/2)))))) O (AB O) (Ac (i:=0) (vs:=AH ((AJ p0 p1 p2*(1/2))+(AJ p0 p1 p2*(1/2)))) O O BP.a BP.s O O) O O ?_)))))
       refine AV.pas (v:=(aG (AH (AJ a b d*(1/2))))) O (AB O) (Ac (i:=2) (vs:=AH (AJ a b d*(1/2))) O O BP.a BP.s O O) O O (AV.imp O ?_)
       have hz6:=FS ((AJ p0 p1 p2*(1/2))+(AJ p0 p1 p2*(1/2))) ((AJ p0 p1 p2*(1/2))+(AJ p0 p1 p2*(1/2)))
       refine AE.call (v:=(aG (AH (((AJ p0 p1 p2*(1/2))+(AJ p0 p1 p2*(1/2)))+((AJ p0 p1 p2*(1/2))+(AJ p0 p1 p2*(1/2))))))) (AB O) (A8 (args:=[(aG (AH ((AJ p0 p1 p2*(1/2))+(AJ p0 p1 p2*(1/2))))),(aG (AH ((AJ p0 p1 p2*(1/2))+(AJ p0 p1 p2*(1/2)))))]) O O call29) (λw hw=>Fi ((AJ p0 p1 p2*(1/2))+(AJ p0 p1 p2*(1/2))) ((AJ p0 p1 p2*(1/2))+(AJ p0 p1 p2*(1/2))) (by (try simp only [Dc]);omega) w) O (Ab O) (AV.back sr (AV.pas (v:=(Value.bool false)) O (AB O) (Cy O O eqGuardType53 (Dm 9995 ((hR.ar.resolve_left k1).resolve_left k2))) O O (Ax (v:=(Value.bool false)) O (Ah O O) (AV.nil (AC.subF (sL [5,6,8,9,11,12,15,14,13,16,17,18,19,20,21,196] O) ?_)))))
       refine AC.then_ (AF.cond_false O (AF.skip (AC.in_normal (AC.then_ (AF.region ?_)))))
       refine AR O (AI (AY (c:=((t+1:Nat):Int)) O O (AX (a:=t) (b:=1) Z)) O (AO O (AE.nil (AC.subF (sL [5,6,8,9,11,12,15,14,13,16,17,18,19,20,21] O) ?_))))
       rw [FB Z hkt]
       exact AC.round1 (t+1) Z Z (sF O) (sl (sl (sl (sl (sl (sl (sl (sl (sl sr)))))))))
    ·skip
     refine Cu [(0,true),(1,true),(2,true),(3,true),(4,true),(5,true),(6,true),(7,true),(8,true),(9,true),(10,true),(11,true),(12,true),(13,true),(14,true),(15,true),(16,true),(17,true),(18,true),(19,true),(20,true),(21,true),(22,true),(23,true),(24,true),(25,true),(26,true),(27,true),(28,true),(29,true),(30,true)] sr (Bf O (Bf O (Ax (v:=(pP (pB bs.x.q.p) (pO bs.x.q.p+t*1))) O (AQ (j:=t) O O bs.x.q.ok underlying33 sizeOf3 O Z) (Ax O (Ai (v:=(vN ((Bp (BE g.ps.length bs.l bs.l.length) g.ts g.ts.length).getD t 0))) (i:=5) O O (bs.x.q.ok.ne Z) Bm (Co (l:=Bp (BE g.ps.length bs.l bs.l.length) g.ts g.ts.length) (j:=t) Z)) (Ax O (Am (c:=false) O O (decide_eq_false Z)) ?_)))))
     refine Bf O (AV.pas (v:=(Value.slice bs.x.q.p ((Bp (BE g.ps.length bs.l bs.l.length) g.ts g.ts.length).length) bs.x.q.c)) O (AB O) (BA O) O O (AV.pas (v:=(vN t)) O (AB O) (BA O) O O (AV.pas (v:=(pP (pB bs.x.q.p) (pO bs.x.q.p+t*1))) O (AB O) (AQ (j:=t) O O bs.x.q.ok underlying33 sizeOf3 O Z) O O (AV.pas (v:=(vN ((Bp (BE g.ps.length bs.l bs.l.length) g.ts g.ts.length).getD t 0))) O (AB O) (Ai (v:=(vN ((Bp (BE g.ps.length bs.l bs.l.length) g.ts g.ts.length).getD t 0))) (i:=5) O O (bs.x.q.ok.ne Z) Bm (Co (l:=Bp (BE g.ps.length bs.l bs.l.length) g.ts g.ts.length) (j:=t) Z)) O O (AV.pas (v:=(pP b2 1)) O (AB O) (AA O underlying31 O sizeOf28 O) O O ?_)))))
     refine AV.pas (v:=(Value.slice g.mx.b.p g.ts.length g.mx.b.c)) O (AB O) (AK (i:=7) (v:=(Value.slice g.mx.b.p g.ts.length g.mx.b.c)) O O CR.a O) O O (AV.pas (v:=(vN g.ts.length)) O (AB O) (AG O underlying28) O O (AV.pas (v:=(Value.bool false)) O (AB O) (DD (c:=false) O O (decide_eq_false Z)) O O (Ax (v:=(Value.bool false)) O (AS O O) (Bf O (AV.pas (v:=(vN t)) O (AB O) (BA O) O O ?_)))))
     refine AV.pas (v:=(Value.bool false)) O (AB O) (Cj (c:=false) O O (decide_eq_false Z)) O O (AV.pas (v:=(Value.bool false)) O (AB O) (BA O) O O (AV.skp O (AL O) O O (AV.skp O (AL O) O O (AV.skp O (AL O) O O (AV.skp O (AL O) O O ?_)))))
     refine AV.skp O (AL O) O O (AV.skp O (AL O) O O (AV.skp O (AL O) O O (AV.skp O (AL O) O O (AV.skp O (AL O) O O (AV.skp O (AL O) O O ?_)))))
     refine AV.pas (v:=(Value.bool false)) O (AB O) (AS O O) O O (Ax (v:=(Value.bool false)) O (AS O O) (AV.nil (AC.subF (sL [5,6,8,9,11,12,122] O) (AC.then_ (AF.cond_false O ?_)))))
     refine AF.skip (q2 (AR O (AR O (AR O (AI (v:=(pP (pB bs.x.q.p) (pO bs.x.q.p+t*1))) (AQ (j:=t) O O bs.x.q.ok underlying33 sizeOf3 O Z) O ?_)))))
     refine AI (Ai (v:=(vN ((Bp (BE g.ps.length bs.l bs.l.length) g.ts g.ts.length).getD t 0))) (i:=5) O O (bs.x.q.ok.ne Z) Bm (Co (l:=Bp (BE g.ps.length bs.l bs.l.length) g.ts g.ts.length) (j:=t) Z)) O (AI (v:=(pP (pB (some ⟨bm,0,none⟩)) (pO (some ⟨bm,0,none⟩)+((Bp (BE g.ps.length bs.l bs.l.length) g.ts g.ts.length).getD t 0)*1))) (AQ (j:=(Bp (BE g.ps.length bs.l bs.l.length) g.ts g.ts.length).getD t 0) O O hbm.row underlying33 sizeOf3 O Z) O (AI (EI (v:=(vN ((Ea (Bp (BE g.ps.length bs.l bs.l.length) g.ts g.ts.length) g.ts.length t).getD ((Bp (BE g.ps.length bs.l bs.l.length) g.ts g.ts.length).getD t 0) 0))) (i:=0) O O hbm (by rw [CP,Nat.mul_one];simp [EZ]) (hbm.row.ne Z) Bm (Co (l:=Ea (Bp (BE g.ps.length bs.l bs.l.length) g.ts g.ts.length) g.ts.length t) (j:=(Bp (BE g.ps.length bs.l bs.l.length) g.ts g.ts.length).getD t 0) Z)) O (AI (AY (c:=((((Ea (Bp (BE g.ps.length bs.l bs.l.length) g.ts g.ts.length) g.ts.length t).getD ((Bp (BE g.ps.length bs.l bs.l.length) g.ts g.ts.length).getD t 0) 0)+1:Nat):Int)) O O (AX (a:=(Ea (Bp (BE g.ps.length bs.l bs.l.length) g.ts g.ts.length) g.ts.length t).getD ((Bp (BE g.ps.length bs.l bs.l.length) g.ts g.ts.length).getD t 0) 0) (b:=1) Z)) O (AI (v:=(pP (pB (some ⟨bm,0,none⟩)) (pO (some ⟨bm,0,none⟩)+((Bp (BE g.ps.length bs.l bs.l.length) g.ts g.ts.length).getD t 0)*1))) (AQ (j:=(Bp (BE g.ps.length bs.l bs.l.length) g.ts g.ts.length).getD t 0) O O hbm.row underlying33 sizeOf3 O Z) O (AE.storeRow0 (j:=(Bp (BE g.ps.length bs.l bs.l.length) g.ts g.ts.length).getD t 0) (v:=(vN (((Ea (Bp (BE g.ps.length bs.l bs.l.length) g.ts g.ts.length) g.ts.length t).getD ((Bp (BE g.ps.length bs.l bs.l.length) g.ts g.ts.length).getD t 0) 0)+1))) O O hbm (by rw [CP,Nat.mul_one];simp [EZ]) Z O sizeOf3 O (Oe _ _ _) ?_)))))
     refine q6 (sL [5,6,8,9,11,12] O) (rN [(0,true),(1,true),(2,true),(3,true),(4,true),(5,false),(6,true),(7,true),(8,true),(9,true)] [⟨10,13,55,Aj (⟨0,0⟩:Pt)⟩,⟨11,14,55,Aj (⟨0,0⟩:Pt)⟩,⟨12,15,55,Aj (⟨0,0⟩:Pt)⟩] [(13,false),(14,false),(15,false)] sr (by kernel_rfl) (λ_ _ d _ _ h=>by cases d<;>exact h) (Fb O O Dq O (Fb O O Dq O (Fb O O Dq O (IU)))) O (H0 7 C9 O (Ll O (Ll O (GA (v:=(pP (pB bs.x.q.p) (pO bs.x.q.p+t*1))) O (AQ (j:=t) O O bs.x.q.ok underlying33 sizeOf3 O Z) O ?_)))))
     refine GA O (Ai (v:=(vN ((Bp (BE g.ps.length bs.l bs.l.length) g.ts g.ts.length).getD t 0))) (i:=5) O O (bs.x.q.ok.ne Z) Bm (Co (l:=Bp (BE g.ps.length bs.l bs.l.length) g.ts g.ts.length) (j:=t) Z)) O (CS.imp O λEF EL=>Ew (args:=[(aG (Bk g.mx)),(vN ((Bp (BE g.ps.length bs.l bs.l.length) g.ts g.ts.length).getD t 0))]) (v:=(Value.tuple #[(aG (Aj a)),(aG (Aj b)),(aG (Aj d))])) call21 (λw hw=>(by rw [ha,hb,hd];exact FK g.mx ((Bp (BE g.ps.length bs.l bs.l.length) g.ts g.ts.length).getD t 0) hkt (CU hnb hkt) w (DB hw 8 O lg:Ro _ w g.mx))) O (CS.back0 sr O (Ll O (GA O (AU (v:=(aG (Aj a))) O O) O ?_))))
     refine GA O (AU (v:=(aG (Aj b))) O O) O (GA O (AU (v:=(aG (Aj d))) O O) O (CS.news3 λb4 b5 b6=>AV.imp O (Aq O sizeOf55 O (AV.back (sl (sl (sl sr))) ?_))))
     refine AV.imp O (Cq O sizeOf55 O (AV.back (sl (sl (sl sr))) (AV.imp O (Kz O sizeOf55 O (AV.back (sl (sl (sl sr))) ?_)))))
     refine AV.nil (AC.subF (sL [5,6,8,9,11,12,15,14,13] O) (q2 (A6 4 C9 O (AR O (Ew (args:=[(aG (Bk bs.x.m)),(vN t)]) (v:=(Value.tuple #[(aG (Aj p0)),(aG (Aj p1)),(aG (Aj p2))])) call21 (λw hw=>(by rw [hp0,hp1,hp2];exact FK bs.x.m t Z (CU hck.num Z) w (DB hw 5 O hmbs))) O ?_)))))
     refine AR O (AI (AU (v:=(aG (Aj p0))) O O) O (AI (AU (v:=(aG (Aj p1))) O O) O (AI (AU (v:=(aG (Aj p2))) O O) O (al Dq O λb7=>al Dq O λb8=>?_))))
     refine al Dq O λb9=>Kz O sizeOf55 O (Cq O sizeOf55 O (Aq O sizeOf55 O (q6 (sL [5,6,8,9,11,12,15,14,13,16,17,18] O) (q4 ?_))))
     refine A6 3 BG O (A6 4 BG O (A6 5 BG O (A6 2 BG O (BW call22 (Hz a b d p0 Z) O (AI (BS (c:=false) O O (decide_eq_false Z)) O ?_)))))
     refine AR O (AE.step (v:=(aG (Aj a))) (AB O) (Ac (i:=3) (vs:=Aj a) O O BG.a BG.s O O) O (Ab O) (AE.step (v:=(aG (Aj b))) (AB O) (Ac (i:=4) (vs:=Aj b) O O BG.a BG.s O O) O (Ab O) (AE.step (v:=(aG (Aj d))) (AB O) (Ac (i:=5) (vs:=Aj d) O O BG.a BG.s O O) O (Ab O) (AE.step (v:=(aG (Aj p1))) (AB O) (Ac (i:=1) (vs:=Aj p1) O O BG.a BG.s O O) O (Ab O) (AE.call (v:=(vN (FP a b d p1))) (AB O) (A8 (args:=[(aG (Aj a)),(aG (Aj b)),(aG (Aj d)),(aG (Aj p1))]) O O call22) (λw hw=>Hz a b d p1 Z w) O (Ab O) ?_)))))
     refine AE.step (v:=(Value.bool false)) (AB O) (BS (c:=false) O O (decide_eq_false Z)) O (Ab O) (AI (v:=(Value.bool false)) (AS O O) O (AR O (AE.step (v:=(aG (Aj a))) (AB O) (Ac (i:=3) (vs:=Aj a) O O BG.a BG.s O O) O (Ab O) (AE.step (v:=(aG (Aj b))) (AB O) (Ac (i:=4) (vs:=Aj b) O O BG.a BG.s O O) O (Ab O) (AE.step (v:=(aG (Aj d))) (AB O) (Ac (i:=5) (vs:=Aj d) O O BG.a BG.s O O) O (Ab O) ?_)))))
     refine AE.step (v:=(aG (Aj p2))) (AB O) (Ac (i:=0) (vs:=Aj p2) O O BG.a BG.s O O) O (Ab O) (AE.call (v:=(vN (FP a b d p2))) (AB O) (A8 (args:=[(aG (Aj a)),(aG (Aj b)),(aG (Aj d)),(aG (Aj p2))]) O O call22) (λw hw=>Hz a b d p2 Z w) O (Ab O) (AE.step (v:=(Value.bool false)) (AB O) (BS (c:=false) O O (decide_eq_false Z)) O (Ab O) (AI (v:=(Value.bool false)) (AS O O) O (AE.nil (AC.subF (sL [5,6,8,9,11,12,15,14,13,16,17,18,170] O) ?_)))))
     refine AC.then_ (AF.cond_false O (AF.skip (q2 (A6 3 BG O (A6 4 BG O ?_)))))
     refine A6 5 BG O ?_
     have hz7:=C1 a b d
     have hz8:=DM (AJ a b d) (1/2)
     refine BW call26 (IR a b d Z) O (al DL O λb10=>Aq O sizeOf53 O (q3 (sL [5,6,8,9,11,12,15,14,13,16,17,18,19] O) (A6 3 BG O (A6 2 BG O ?_))))
     refine A6 1 BG O ?_
     have hz9:=C1 p0 p1 p2
     have hz10:=DM (AJ p0 p1 p2) (1/2)
     refine BW call26 (IR p0 p1 p2 Z) O (al DL O λb11=>Aq O sizeOf53 O (q3 (sL [5,6,8,9,11,12,15,14,13,16,17,18,19,20] O) (A6 0 BP O (A6 0 BP O ?_))))
     have hz11:=FS (AJ p0 p1 p2*(1/2)) (AJ p0 p1 p2*(1/2))
     refine BW call29 (Fi (AJ p0 p1 p2*(1/2)) (AJ p0 p1 p2*(1/2)) (by (try simp only [Dc]);omega)) O (al DL O λb12=>Aq O sizeOf53 O (q6 (sL [5,6,8,9,11,12,15,14,13,16,17,18,19,20,21] O) ?_))
     by_cases k1:AJ p0 p1 p2*(1/2)=AJ a b d*(1/2)
     ·skip
      refine Cu [(0,true),(1,true),(2,true),(3,true),(4,true),(5,true),(6,true),(7,true),(8,true),(9,true),(10,true),(12,true),(11,false),(13,true),(14,true)] sr (EW 1 BP O (EW 2 BP O (Ax (v:=(Value.bool false)) O (Cy O O eqGuardType53 (Dm 9995 k1)) (Bf O (AV.skp O (AL O) O O ?_)))))
      refine AV.skp O (AL O) O O (AV.skp O (AL O) O O (Ax (v:=(Value.bool false)) O (AS O O) (Bf O (AV.skp O (AL O) O O (AV.skp O (AL O) O O ?_)))))
      refine AV.skp O (AL O) O O (AV.imp O (AE.skip (AL O) O (Ab O) (AV.back sr (AV.skp O (AL O) O O (Ax (v:=(Value.bool false)) O (AS O O) ?_)))))
      refine AV.nil (AC.subF (sL [5,6,8,9,11,12,15,14,13,16,17,18,19,20,21,196] O) (AC.then_ (AF.cond_false O (AF.skip (AC.in_normal ?_)))))
      refine AC.then_ (AF.region (AR O (AI (AY (c:=((t+1:Nat):Int)) O O (AX (a:=t) (b:=1) Z)) O (AO O (AE.nil ?_)))))
      refine AC.subF (sL [5,6,8,9,11,12,15,14,13,16,17,18,19,20,21] O) ?_
      rw [FB Z hkt]
      exact AC.round1 (t+1) Z Z (sF O) (sl (sl (sl (sl (sl (sl (sl (sl (sl sr)))))))))
     ·skip
      by_cases k2:(AJ p0 p1 p2*(1/2))+(AJ p0 p1 p2*(1/2))=AJ a b d*(1/2)
      ·skip
       refine Cu [(0,true),(1,true),(2,true),(3,true),(4,true),(5,true),(6,true),(7,true),(8,true),(9,true),(10,true),(12,true),(11,false),(13,true),(14,true)] sr (EW 1 BP O (EW 2 BP O (Ax O (DY (c:=decide (AJ p0 p1 p2*(1/2)=AJ a b d*(1/2))) O O eqGuardType53 (D4 9995 (AJ p0 p1 p2*(1/2)) (AJ a b d*(1/2))) (congrArg not (decide_eq_false k1))) (Bf O (AV.pas (v:=(aG (AH ((AJ p0 p1 p2*(1/2))+(AJ p0 p1 p2*(1/2)))))) O (AB O) (Ac (i:=0) (vs:=AH ((AJ p0 p1 p2*(1/2))+(AJ p0 p1 p2*(1/2)))) O O BP.a BP.s O O) O O ?_)))))
       refine AV.pas (v:=(aG (AH (AJ a b d*(1/2))))) O (AB O) (Ac (i:=2) (vs:=AH (AJ a b d*(1/2))) O O BP.a BP.s O O) O O (AV.pas (v:=(Value.bool false)) O (AB O) (Cy O O eqGuardType53 (Dm 9995 k2)) O O (Ax (v:=(Value.bool false)) O (Ah O O) (Bf O (AV.skp O (AL O) O O (AV.skp O (AL O) O O ?_)))))
       refine AV.skp O (AL O) O O (AV.imp O (AE.skip (AL O) O (Ab O) (AV.back sr (AV.skp O (AL O) O O (Ax (v:=(Value.bool false)) O (AS O O) ?_)))))
       refine AV.nil (AC.subF (sL [5,6,8,9,11,12,15,14,13,16,17,18,19,20,21,196] O) (AC.then_ (AF.cond_false O (AF.skip (AC.in_normal ?_)))))
       refine AC.then_ (AF.region (AR O (AI (AY (c:=((t+1:Nat):Int)) O O (AX (a:=t) (b:=1) Z)) O (AO O (AE.nil ?_)))))
       refine AC.subF (sL [5,6,8,9,11,12,15,14,13,16,17,18,19,20,21] O) ?_
       rw [FB Z hkt]
       exact AC.round1 (t+1) Z Z (sF O) (sl (sl (sl (sl (sl (sl (sl (sl (sl sr)))))))))
      ·skip
       refine Cu [(0,true),(1,true),(2,true),(3,true),(4,true),(5,true),(6,true),(7,true),(8,true),(9,true),(10,true),(12,true),(11,false),(13,true),(14,true)] sr (EW 1 BP O (EW 2 BP O (Ax O (DY (c:=decide (AJ p0 p1 p2*(1/2)=AJ a b d*(1/2))) O O eqGuardType53 (D4 9995 (AJ p0 p1 p2*(1/2)) (AJ a b d*(1/2))) (congrArg not (decide_eq_false k1))) (Bf O (AV.pas (v:=(aG (AH ((AJ p0 p1 p2*(1/2))+(AJ p0 p1 p2*(1/2)))))) O (AB O) (Ac (i:=0) (vs:=AH ((AJ p0 p1 p2*(1/2))+(AJ p0 p1 p2*(1/2)))) O O BP.a BP.s O O) O O ?_)))))
       refine AV.pas (v:=(aG (AH (AJ a b d*(1/2))))) O (AB O) (Ac (i:=2) (vs:=AH (AJ a b d*(1/2))) O O BP.a BP.s O O) O O (AV.pas (v:=(Value.bool true)) O (AB O) (DY (c:=decide ((AJ p0 p1 p2*(1/2))+(AJ p0 p1 p2*(1/2))=AJ a b d*(1/2))) O O eqGuardType53 (D4 9995 ((AJ p0 p1 p2*(1/2))+(AJ p0 p1 p2*(1/2))) (AJ a b d*(1/2))) (congrArg not (decide_eq_false k2))) O O (Ax (v:=(Value.bool true)) O (Ah O O) (Bf O (AV.pas (v:=(aG (AH ((AJ p0 p1 p2*(1/2))+(AJ p0 p1 p2*(1/2)))))) O (AB O) (Ac (i:=0) (vs:=AH ((AJ p0 p1 p2*(1/2))+(AJ p0 p1 p2*(1/2)))) O O BP.a BP.s O O) O O (AV.pas (v:=(aG (AH ((AJ p0 p1 p2*(1/2))+(AJ p0 p1 p2*(1/2)))))) O (AB O) (Ac (i:=0) (vs:=AH ((AJ p0 p1 p2*(1/2))+(AJ p0 p1 p2*(1/2)))) O O BP.a BP.s O O) O O ?_)))))
       refine AV.pas (v:=(aG (AH (AJ a b d*(1/2))))) O (AB O) (Ac (i:=2) (vs:=AH (AJ a b d*(1/2))) O O BP.a BP.s O O) O O (AV.imp O ?_)
       have hz12:=FS ((AJ p0 p1 p2*(1/2))+(AJ p0 p1 p2*(1/2))) ((AJ p0 p1 p2*(1/2))+(AJ p0 p1 p2*(1/2)))
       refine AE.call (v:=(aG (AH (((AJ p0 p1 p2*(1/2))+(AJ p0 p1 p2*(1/2)))+((AJ p0 p1 p2*(1/2))+(AJ p0 p1 p2*(1/2))))))) (AB O) (A8 (args:=[(aG (AH ((AJ p0 p1 p2*(1/2))+(AJ p0 p1 p2*(1/2))))),(aG (AH ((AJ p0 p1 p2*(1/2))+(AJ p0 p1 p2*(1/2)))))]) O O call29) (λw hw=>Fi ((AJ p0 p1 p2*(1/2))+(AJ p0 p1 p2*(1/2))) ((AJ p0 p1 p2*(1/2))+(AJ p0 p1 p2*(1/2))) (by (try simp only [Dc]);omega) w) O (Ab O) (AV.back sr (AV.pas (v:=(Value.bool false)) O (AB O) (Cy O O eqGuardType53 (Dm 9995 ((hR.ar.resolve_left k1).resolve_left k2))) O O (Ax (v:=(Value.bool false)) O (Ah O O) (AV.nil (AC.subF (sL [5,6,8,9,11,12,15,14,13,16,17,18,19,20,21,196] O) ?_)))))
       refine AC.then_ (AF.cond_false O (AF.skip (AC.in_normal (AC.then_ (AF.region ?_)))))
       refine AR O (AI (AY (c:=((t+1:Nat):Int)) O O (AX (a:=t) (b:=1) Z)) O (AO O (AE.nil (AC.subF (sL [5,6,8,9,11,12,15,14,13,16,17,18,19,20,21] O) ?_))))
       rw [FB Z hkt]
       exact AC.round1 (t+1) Z Z (sF O) (sl (sl (sl (sl (sl (sl (sl (sl (sl sr)))))))))
   ·replace hc3:=of_decide_eq_false hc3
    have hcnt:∀j,j<la.length->2<=(Ea (Bp (BE g.ps.length bs.l bs.l.length) g.ts g.ts.length) g.ts.length t).getD (la.getD j 0%g.ts.length) 0:=λj hj=>by rw [show t=(Bp (BE g.ps.length bs.l bs.l.length) g.ts g.ts.length).length by omega,Kj (Nat.mod_lt _ hne),List.take_length];have hm9:=hmg j hj;have hr9:=hmr j Z;have h9:=XF D (z:=xa.getD j 0) (by rw [List.getD,List.getElem?_eq_getElem (show j<xa.length by omega)];exact List.getElem_mem _) hr9.1 hr9.2;rw [hm9] at h9;exact h9
    have hcpl:=EZ (Bp (BE g.ps.length bs.l bs.l.length) g.ts g.ts.length) g.ts.length t
    have hml9:∀j,la.getD j 0%g.ts.length<g.ts.length:=λj=>Nat.mod_lt _ hne
    refine AF.exit (AC.then_exit (AC.round1_exit (AC.in_exit (q1 (q4 ?_)))))
    refine AO O (AE.nil (AC.then_ (AF.block ?_)))
    refine AF.lp1 (tg λ(j:Nat)=>j<=xa.length) (tg λ(j:Nat)=>[(6,(Value.slice pz1 xa.length cz1)),(11,(Value.slice (some ⟨bm,0,none⟩) g.ts.length g.ts.length)),(22,(vN j))]) (tg λ(j:Nat)=>[rowW (some ⟨bm,0,none⟩) 3 1 g.ts.length g.ts.length (inL (Ea (Bp (BE g.ps.length bs.l bs.l.length) g.ts g.ts.length) g.ts.length t)),Af b3 31 (Bk bs.x.m),AZ bs.x.m.a.p (rowsL Aj (Dn g.ps bs.l)),AZ bs.x.m.b.p (rowsL An (Et (BE g.ps.length bs.l bs.l.length) g.ts)),AZ bs.x.m.c.p (rowsL An (IA g.ps.length g.ss bs.l (Et (BE g.ps.length bs.l bs.l.length) g.ts))),AZ bs.x.q.p (inL (Bp (BE g.ps.length bs.l bs.l.length) g.ts g.ts.length)),AZ pz1 (zL xa),Af b2 31 (Bk g.mx),AZ g.mx.a.p (rowsL Aj g.ps),AZ g.mx.b.p (rowsL An g.ts),AZ g.mx.c.p (rowsL An g.ss),Af b1 26 (Ek m),AZ m.p (Cc m.cs),AZ ya.p (Cc la)]) (tg λ(j:Nat)=>xa.length-j) 0 (Nat.zero_le _) (sF O) sr (λj hJ=>?_)
    have hjl:=hJ
    have hj9:=hml9 j
    refine AF.seq (q4 (AR O (AR O (AI (v:=(vN xa.length)) (AG O underlying33) O (AI (Am (c:=(decide (j<xa.length))) O O (C6 (a:=j) (b:=xa.length))) O ?_)))))
    refine AE.nil (AC.subF (sL [6,11,22,200] O) (AC.then_ ?_))
    refine AF.cond O (λhc7=>?_) (λhc7=>?_)
    ·replace hc7:=of_decide_eq_true hc7
     refine AF.skip (q1 (AF.block (q4 (AR O (AR O ?_)))))
     refine AR O (AI (v:=(pP (pB pz1) (pO pz1+j*1))) (AQ (j:=j) O O hola.row underlying33 sizeOf3 O Z) O (AI (Ai (v:=(vI (xa.getD j 0))) (i:=6) O O (hola.row.ne Z) Bm (PL (l:=xa) (j:=j) Z)) O (AE.retell (k:=207) (u:=(vN (la.getD j 0%g.ts.length))) O (by rw [hmg j Z]) (AI (v:=(pP (pB (some ⟨bm,0,none⟩)) (pO (some ⟨bm,0,none⟩)+(la.getD j 0%g.ts.length)*1))) (AQ (j:=la.getD j 0%g.ts.length) O O hbm.row underlying33 sizeOf3 O Z) O (AI (EI (v:=(vN ((Ea (Bp (BE g.ps.length bs.l bs.l.length) g.ts g.ts.length) g.ts.length t).getD (la.getD j 0%g.ts.length) 0))) (i:=0) O O hbm (by rw [CP,Nat.mul_one];simp [EZ]) (hbm.row.ne Z) Bm (Co (l:=Ea (Bp (BE g.ps.length bs.l bs.l.length) g.ts g.ts.length) g.ts.length t) (j:=la.getD j 0%g.ts.length) Z)) O ?_)))))
     refine AI (Am (c:=false) O O (decide_eq_false (by have h9:=hcnt j Z;omega))) O (AE.nil (AC.subF (sL [6,11,22,210] O) (AC.then_ (AF.cond_false O (AF.skip ?_)))))
     refine AC.in_normal (AC.then_ (AF.region (AR O (AI (AY (c:=((j+1:Nat):Int)) O O (AX (a:=j) (b:=1) Z)) O (AO O ?_)))))
     exact AE.nil (AC.subF (sL [6,11,22] O) (AC.round1 (j+1) Z Z (sF O) sr))
    ·replace hc7:=of_decide_eq_false hc7
     refine AF.exit (AC.then_exit (AC.round1_exit (AC.in_exit (q2 (BW call27 (K9) O ?_)))))
     exact AO O (AE.nil (AC.subF (sL [6,11,22,4] O) (AC.then_ (AF.ret (AT O (Ak (v:=(Value.bool true)) O) (λw hw=>⟨rfl,hw.out⟩))))))
end
end Go.Proofs.YtfbomiejpbchdaaGreat
