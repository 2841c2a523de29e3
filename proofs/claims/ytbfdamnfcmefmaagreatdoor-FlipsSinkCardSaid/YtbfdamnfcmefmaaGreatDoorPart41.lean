import Derived.Test.YtbfdamnfcmefmaaGreatDoorPart40
namespace Go.Proofs.YtbfdamnfcmefmaaGreatDoor
open Go Go.RowKit Go.Proofs.Tryz
open Go.Value renaming slice→qz,bool→qa
set_option linter.unusedVariables false
set_option linter.unusedSimpArgs false
section
structure a9 (ps:List Pt) (ts ss:List T3) (e:Nat) where
  x:MX ps ts ss
instance {ps:List Pt} {ts ss:List T3} {e:Nat}:C6 (a9 ps ts ss e):=⟨λr=>.tuple #[aG (Ce r.x),vN e],λr=>[r.x.a.row,r.x.b.row,r.x.c.row],λr y hy=>ZM hy⟩
theorem Zw {ps:List Pt} {ts ss:List T3} {e:Nat} {S:Nat->Prop} {W w:World} {E:Ending} (h:BS (SF ps ts (ss.map C8) e) S W E w):BS (a9 ps ts ss e) S W E w:=by
  obtain ⟨⟨⟨a,b,⟨cp,cc,cok⟩⟩⟩,h1,h2,h3⟩:=h
  have hk:(ss.map C8).length=ss.length:=xL _
  refine ⟨⟨⟨a,b,⟨cp,cc,hk▸cok⟩⟩⟩,?_,h2,λy hy=>?_⟩
  · rw [h1]
    show Ending.returned (.tuple #[aG [a.val,b.val,qz cp (ss.map C8).length cc],vN e])=.returned (.tuple #[aG [a.val,b.val,qz cp ss.length cc],vN e])
    rw [xL]
  · have hy:y∈[a.row,b.row,AP cp (rowsL Ad ss)]:=hy
    rw [E6 ss] at hy
    exact h3 y hy
section
variable {ps:List Pt} {ts ss:List T3} {e:E4} {p q c d:Nat} {zs:List Z3}
theorem PH (hz:∀k,Bn (cor ps k)<=1000) (ts:List T3):Sz (EO ps ts)<=10+ts.length*20312:=by
  have h1:=KR hz ts ts.length
  have h2:Sz (((1:Int):Rat)/((3:Int):Rat))<=8:=by decide +kernel
  have h3:=C2 (Gz ps ts ts.length) (((1:Int):Rat)/((3:Int):Rat))
  unfold EO
  omega
theorem WY (hn:BV ps.length ts=true) (hN:ps.length<=4611686018427387904) (he:e∈BJ ts):XA ps ts (e.a:Int) (e.b:Int)=EN ps ts e/\XB ts (e.a:Int) (e.b:Int)=0:=by
  obtain ⟨g1,g2⟩:=Kz hn hN he
  have g3:=QV (ps:=ps) g1
  rw [g2] at g3;exact g3
theorem OP (hn:BV ps.length ts=true) (hN:ps.length<=4611686018427387904) (he:e∈BJ ts) (h2:Hi ps.length ts e p q c d):LF ps ts (e.a:Int) (e.b:Int)=Dg ps e.a e.b c d/\bE ts (e.a:Int) (e.b:Int)=B8 ts e.a e.b p q c d:=by
  obtain ⟨g1,g2⟩:=Kz hn hN he
  have g3:=Ra (ps:=ps) g1 (by rw [g2];exact h2)
  rw [g2] at g3;exact g3
theorem Pc (hP:GF ps ts) (h2:Hi ps.length ts e p q c d):Mr (cor ps e.a) (cor ps e.b) (cor ps c) (cor ps d)=(LU (cor ps e.a) (cor ps e.b) (cor ps c) (cor ps d)).num.sign:=by
  have hp:=hP.pos p h2.pl
  rw [(Ea h2.sc ps).2] at hp
  show (LU (cor ps e.a) (cor ps e.b) (cor ps c) (cor ps d)).num.sign*(AF (cor ps e.a) (cor ps e.b) (cor ps c)).num.sign=_
  rw [hp,Int.mul_one]
theorem ae (hP:GF ps ts) (hN:ps.length<=4611686018427387904) (he:e∈BJ ts) (h:LF ps ts (e.a:Int) (e.b:Int)=false):EN ps ts e=true:=by
  by_cases hb:0<=e.l/\0<=e.r
  · obtain ⟨p,q,c,d,h2⟩:=JX hP.num hN he hb.1 hb.2
    rw [(OP hP.num hN he h2).1] at h
    rw [La h2,Pc hP h2,xW]
    intro k
    have a1:=hP.pos p h2.pl
    have a2:=hP.pos q h2.ql
    rw [(Ea h2.sc ps).2,Fl] at a1
    rw [(Ea h2.sd ps).2,Fl] at a2
    obtain ⟨b1,b2⟩:=SS a1 a2 (Fl.1 k)
    rw [Ih (Fl.2 b1) (Fl.2 b2)] at h
    cases h
  · exact Rk hb
theorem WZ (hn:BV ps.length ts=true) (hN:ps.length<=4611686018427387904) (he:e∈BJ ts) (h:LF ps ts (e.a:Int) (e.b:Int)=false):Nt ps ts (e.a:Int) (e.b:Int)=[]/\Nv ps ts (e.a:Int) (e.b:Int)=[]/\Nu ps ts zs (e.a:Int) (e.b:Int)=[]/\M2 ps ts (e.a:Int) (e.b:Int)=7:=by
  obtain ⟨g1,_⟩:=Kz hn hN he
  obtain ⟨k1,k2,k3⟩:=Hn (ss:=zs) h
  exact ⟨k1,k2,k3,by rw [Ns g1,h];rfl⟩
theorem Y1 (hn:BV ps.length ts=true) (hN:ps.length<=4611686018427387904) (he:e∈BJ ts) (h:LF ps ts (e.a:Int) (e.b:Int)=true):∃p q c d,Hi ps.length ts e p q c d/\Dg ps e.a e.b c d=true:=by
  have hb:0<=e.l/\0<=e.r:=by
    obtain ⟨g1,g2⟩:=Kz hn hN he
    unfold LF at h
    rw [g2] at h
    simp only [yz] at h
    exact EG.1 h.2.1
  obtain ⟨p,q,c,d,h2⟩:=JX hn hN he hb.1 hb.2
  exact ⟨p,q,c,d,h2,by rw [<-(OP hn hN he h2).1];exact h⟩
theorem OO (hn:BV ps.length ts=true) (hN:ps.length<=4611686018427387904) (he:e∈BJ ts) (h2:Hi ps.length ts e p q c d) (hf:Dg ps e.a e.b c d=true):Nt ps ts (e.a:Int) (e.b:Int)=ps/\Nv ps ts (e.a:Int) (e.b:Int)=B8 ts e.a e.b p q c d/\Nu ps ts zs (e.a:Int) (e.b:Int)=zs/\M2 ps ts (e.a:Int) (e.b:Int)=0:=by
  obtain ⟨g1,_⟩:=Kz hn hN he
  obtain ⟨k1,k2⟩:=OP hn hN he h2
  have k3:=k1.trans hf
  obtain ⟨m1,m2,m3⟩:=Nx (ss:=zs) k3
  exact ⟨m1,by rw [m2,k2],m3,by rw [Ns g1,k3];rfl⟩
theorem Zq (ts:List T3) (x y:Int):GJ ts x y=GJ ts y x:=by unfold GJ;rw [Int.min_comm,Int.max_comm]
theorem bY (x y:Int):Nt ps ts x y=Nt ps ts y x/\Nv ps ts x y=Nv ps ts y x/\Nu ps ts zs x y=Nu ps ts zs y x/\M2 ps ts x y=M2 ps ts y x:=by
  unfold Nt Nv Nu M2 bE LF Di
  rw [Zq ts x y];exact ⟨rfl,rfl,rfl,rfl⟩
theorem Yz (hP:GF ps ts) (h:Hi ps.length ts e p q c d):decide (Fw (EO ps (B8 ts e.a e.b p q c d)) (EO ps ts)<0)=!EN ps ts e:=by
  rw [La h,Pc hP h,VY h]
  generalize LU (cor ps e.a) (cor ps e.b) (cor ps c) (cor ps d)=x
  generalize EO ps ts=y
  by_cases k:0<x
  · have:=Rat.mul_pos k (show (0:Rat)<1/6 by decide +kernel)
    rw [xJ (HL.2 (show y-x*(1/6)<y by grind)),Fl.2 k];rfl
  · have:=Rat.mul_nonneg (show 0 <= -x by grind) (show (0:Rat)<=1/6 by decide +kernel)
    rw [xI (λh=>by have h:=HL.1 h;grind),xJ (show x.num.sign≠1 from λh=>k (Fl.1 h))];rfl
theorem Pb {N j a b c:Nat} (hj:j<ts.length) (h:I5 N (ts.getD j (0,0,0)) a b c):∃u,u<3*ts.length/\Br ts u=(a,b):=by
  have go:∀s,s<3->Br ts (3*j+s)=(FB (ts.getD j (0,0,0)) s,FB (ts.getD j (0,0,0)) ((s+1)%3)):=λs hs=>by
    unfold Br
    rw [show (3*j+s)/3=j by omega,show (3*j+s)%3=s by omega]
  rcases h.w with ⟨e1,e2,e3⟩|⟨e1,e2,e3⟩|⟨e1,e2,e3⟩
  · exact ⟨3*j+0,Z,by rw [go 0 jY,<-e1,<-e2];rfl⟩
  · exact ⟨3*j+1,Z,by rw [go 1 jY,<-e1,<-e2];rfl⟩
  · exact ⟨3*j+2,Z,by rw [go 2 jY,<-e1,<-e2];rfl⟩
theorem TP (hP:GF ps ts) (ha:ML ps ts) {i k a b x y:Nat} (hi:i<ts.length) (hk:k<ts.length) (h1:I5 ps.length (ts.getD i (0,0,0)) a b x) (h2:I5 ps.length (ts.getD k (0,0,0)) a b y):i=k :=
  Classical.byContradiction λhne=>Rs (DS hP hi h1) (DS hP hk h2) (F8 hP ha hi hk hne h1 h2)
theorem O5 (hP:GF ps ts) (ha:ML ps ts) (hN:ps.length<=4611686018427387904) {i k a b x y:Nat} (hlt:a<b) (hi:i<ts.length) (hk:k<ts.length) (h1:I5 ps.length (ts.getD i (0,0,0)) a b x) (h2:I5 ps.length (ts.getD k (0,0,0)) b a y):(⟨a,b,(i:Int),(k:Int)⟩:E4)∈BJ ts/\Hi ps.length ts (⟨a,b,(i:Int),(k:Int)⟩:E4) i k x y:=by
  have one:∀{i a b x:Nat},i<ts.length->I5 ps.length (ts.getD i (0,0,0)) a b x->KB ts (3*ts.length) a b (i:Int):=λ{i a b x} hi h=>by
    obtain ⟨z,hz⟩:=PA ts a b (3*ts.length)
    obtain ⟨u,hu,hd⟩:=Pb hi h
    have h0:0<=z:=by
      rcases hz with ⟨_,k⟩|⟨v,_,k,_⟩
      · exact absurd hd (k u hu)
      · omega
    obtain ⟨t,ht,e1,y,hs⟩:=Qv hP.num hz h0
    rw [TP hP ha hi ht h hs,<-e1];exact hz
  obtain ⟨u,hu,hd⟩:=Pb hi h1
  exact ⟨(KT hP.num hN).2 ⟨rfl,rfl,hlt,one hi h1,one hk h2,u,hu,.inl hd⟩,⟨rfl,rfl,hi,hk,h1,h2⟩⟩
def R3 (u t:T3):Prop:=u=t\/u=(t.2.1,t.2.2,t.1)\/u=(t.2.2,t.1,t.2.1)
theorem ON {N a b c:Nat} {u t:T3} (h:I5 N t a b c) (h1:u=(a,b,c)\/u=(b,c,a)\/u=(c,a,b)):R3 u t:=by
  obtain ⟨x,y,z⟩:=t
  unfold R3
  rcases h.w with ⟨e1,e2,e3⟩|⟨e1,e2,e3⟩|⟨e1,e2,e3⟩<;>(simp only at e1 e2 e3;subst e1 e2 e3;rcases h1 with rfl|rfl|rfl<;>simp)
theorem WX (hv:Fr ps ts ss) (h:Hi ps.length ts e p q c d) (hf:Dg ps e.a e.b c d=true):∃BT,(Nt ps (B8 ts e.a e.b p q c d) (c:Int) (d:Int)=ps/\Nv ps (B8 ts e.a e.b p q c d) (c:Int) (d:Int)=BT/\Nu ps (B8 ts e.a e.b p q c d) zs (c:Int) (d:Int)=zs/\M2 ps (B8 ts e.a e.b p q c d) (c:Int) (d:Int)=0)/\BT.length=ts.length /\
    ∀i,R3 (BT.getD i (0,0,0)) (ts.getD (if i=p then q else if i=q then p else i) (0,0,0)):=by
  obtain ⟨hP2,_,ha2,_⟩:=Ks (Rb hv h hf)
  have hP:=(Ks hv).1
  have hl:=hv.pl
  have hN:ps.length<=4611686018427387904:=by omega
  have hq:=OV hP h hf
  obtain ⟨f1,f2,f3,f4,f5,f6,f7,f8⟩:=hq.facts
  have hne:=h.ne
  have hpl:=h.pl
  have hql:=h.ql
  have hcd:c≠d:=λk=>by
    have:=hq.n
    rw [<-k,Ga] at this;exact absurd this Rat.lt_irrefl
  have hlen:(B8 ts e.a e.b p q c d).length=ts.length:=CL
  have gp:(B8 ts e.a e.b p q c d).getD p (0,0,0)=(e.a,d,c):=by rw [C5 h,if_neg (λk=>hne k.symm),if_pos rfl]
  have gq:(B8 ts e.a e.b p q c d).getD q (0,0,0)=(d,e.b,c):=by rw [C5 h,if_pos rfl]
  have s1:I5 ps.length ((B8 ts e.a e.b p q c d).getD q (0,0,0)) c d e.b:=by
    rw [gq];exact ⟨.inr (.inr ⟨rfl,rfl,rfl⟩),hcd,h.sd.ca,h.sc.bc,h.sc.c,h.sd.c,h.sc.b⟩
  have s2:I5 ps.length ((B8 ts e.a e.b p q c d).getD p (0,0,0)) d c e.a:=by
    rw [gp];exact ⟨.inr (.inl ⟨rfl,rfl,rfl⟩),λk=>hcd k.symm,h.sc.ca,h.sd.bc,h.sd.c,h.sc.c,h.sc.a⟩
  rcases Nat.lt_or_ge c d with hlt|hge
  · obtain ⟨m1,m2⟩:=O5 hP2 ha2 hN hlt (by rw [hlen];exact hql) (by rw [hlen];exact hpl) s1 s2
    have m3:=OO (zs:=zs) hP2.num hN m1 m2 (Ih (Fl.2 f2) (Fl.2 f3))
    refine ⟨_,m3,CL.trans hlen,λi=>?_⟩
    rw [C5 m2,C5 h]
    show R3 (if p=i then (e.a,d,e.b) else if q=i then (c,e.a,e.b) else _) _
    by_cases ip:i=p
    · subst ip
      rw [if_pos rfl,if_pos rfl]
      exact ON h.sd (.inr (.inl O))
    · rw [if_neg (λk=>ip k.symm),if_neg ip]
      by_cases iq:i=q
      · subst iq
        rw [if_pos rfl,if_pos rfl]
        exact ON h.sc (.inr (.inr O))
      · rw [if_neg (λk=>iq k.symm),if_neg iq,if_neg (λk=>iq k.symm),if_neg (λk=>ip k.symm)]
        exact .inl O
  · obtain ⟨m1,m2⟩:=O5 hP2 ha2 hN (show d<c by omega) (by rw [hlen];exact hpl) (by rw [hlen];exact hql) s2 s1
    have m3:=OO (zs:=zs) hP2.num hN m1 m2 (Ih (Fl.2 f4) (Fl.2 f1))
    obtain ⟨w1,w2,w3,w4⟩:=bY (ps:=ps) (ts:=B8 ts e.a e.b p q c d) (zs:=zs) (c:Int) (d:Int)
    rw [w1,w2,w3,w4]
    refine ⟨_,m3,CL.trans hlen,λi=>?_⟩
    rw [C5 m2,C5 h]
    show R3 (if q=i then (e.b,c,e.a) else if p=i then (d,e.b,e.a) else _) _
    by_cases ip:i=p
    · subst ip
      rw [if_neg (λk=>hne k.symm),if_pos rfl,if_pos rfl]
      exact ON h.sd (.inr (.inr O))
    · rw [if_neg ip]
      by_cases iq:i=q
      · subst iq
        rw [if_pos rfl,if_pos rfl]
        exact ON h.sc (.inr (.inl O))
      · rw [if_neg (λk=>iq k.symm),if_neg (λk=>ip k.symm),if_neg iq,if_neg (λk=>iq k.symm),if_neg (λk=>ip k.symm)]
        exact .inl O
end
structure eo (ps:List Pt) (ts ss:List T3) (a b p q c d:Nat) (FT BT:List T3) (lb:Bool):Prop where
  lg:XA ps ts (a:Int) (b:Int)=lb
  le:XB ts (a:Int) (b:Int)=0
  fl:Nt ps ts (a:Int) (b:Int)=ps/\Nv ps ts (a:Int) (b:Int)=FT/\Nu ps ts (ss.map C8) (a:Int) (b:Int)=ss.map C8/\M2 ps ts (a:Int) (b:Int)=0
  bk:Nt ps FT (c:Int) (d:Int)=ps/\Nv ps FT (c:Int) (d:Int)=BT/\Nu ps FT (ss.map C8) (c:Int) (d:Int)=ss.map C8/\M2 ps FT (c:Int) (d:Int)=0
  ck:Fr ps FT ss
  ft:FT.length=ts.length
  bt:BT.length=ts.length
  cm:decide (Fw (EO ps FT) (EO ps ts)<0)=!lb
  ar:Fu ps FT FT.length=Fu ps ts ts.length
  pl:p<ts.length
  ql:q<ts.length
  ne:p≠q
  ab:a<ps.length/\b<ps.length/\c<ps.length/\d<ps.length
  sp:(ts.getD p (0,0,0)).1+(ts.getD p (0,0,0)).2.1+(ts.getD p (0,0,0)).2.2=a+b+c
  sq:(ts.getD q (0,0,0)).1+(ts.getD q (0,0,0)).2.1+(ts.getD q (0,0,0)).2.2=a+b+d
  r3:∀i,R3 (BT.getD i (0,0,0)) (ts.getD (if i=p then q else if i=q then p else i) (0,0,0))
theorem Yy {ps:List Pt} {ts ss:List T3} {e:E4} (hv:Fr ps ts ss) (he:e∈BJ ts) (hc:LF ps ts (e.a:Int) (e.b:Int)=true):∃(a b p q c d:Nat) (FT BT:List T3) (lb:Bool),e=⟨a,b,(p:Int),(q:Int)⟩/\eo ps ts ss a b p q c d FT BT lb:=by
  have hl:=hv.pl
  have hN:ps.length<=4611686018427387904:=by omega
  have hP:=(Ks hv).1
  obtain ⟨p,q,c,d,h,hf⟩:=Y1 hP.num hN he hc
  obtain ⟨BT,b1,b2,b3⟩:=WX (zs:=ss.map C8) hv h hf
  have hE:=h.mk4
  have g:=WY hP.num hN he
  have g2:=OO (zs:=ss.map C8) hP.num hN he h hf
  have hw:∀{t:T3} {a b c:Nat},I5 ps.length t a b c->t.1+t.2.1+t.2.2=a+b+c:=λ{t a b c} h=>by have:=h.w;omega
  exact ⟨e.a,e.b,p,q,c,d,B8 ts e.a e.b p q c d,BT,EN ps ts e,hE,g.1,g.2,g2,b1,Rb hv h hf,CL,b2,Yz hP h,by rw [CL];exact U7 h,h.pl,h.ql,h.ne,⟨h.sc.a,h.sc.b,h.sc.c,h.sd.c⟩,hw h.sc,by rw [hw h.sd];omega,b3⟩
theorem Y0 {ps:List Pt} {ts ss:List T3} {e:E4} (hv:Fr ps ts ss) (he:e∈BJ ts) (hc:LF ps ts (e.a:Int) (e.b:Int)=false):(XA ps ts (e.a:Int) (e.b:Int)=true/\XB ts (e.a:Int) (e.b:Int)=0)/\(Nt ps ts (e.a:Int) (e.b:Int)=[]/\Nv ps ts (e.a:Int) (e.b:Int)=[]/\Nu ps ts (ss.map C8) (e.a:Int) (e.b:Int)=[]/\M2 ps ts (e.a:Int) (e.b:Int)=7):=by
  have hl:=hv.pl
  have hN:ps.length<=4611686018427387904:=by omega
  have hP:=(Ks hv).1
  have g:=WY hP.num hN he
  rw [ae hP hN he hc] at g
  exact ⟨g,WZ hP.num hN he hc⟩
end
end Go.Proofs.YtbfdamnfcmefmaaGreatDoor
