import Derived.Test.YtpolhpjiahbidaaGreatDoorPrt15
namespace Go.Proofs.YtpolhpjiahbidaaGreatDoor
open Go Go.RowKit Go.Proofs.Tryz
open Go.Value renaming slice→qz,bool→qa
set_option linter.unusedVariables false
set_option linter.unusedSimpArgs false
section
set_option maxRecDepth 100000
theorem ZZ (a b:NV) (hla:(dg a.x).length<=549755813888) (hlb:(dg b.x).length<=549755813888) (w:World) (ha:Holds w (nA a)) (hb:Holds w (nA b)):Calls prog 198 #[(nV a),(nV b)] w (G0 w [] (a.x+b.x)):=by
 refine AR (args:=[(nV a),(nV b)]) (L:=[nA a,nA b]) func198 O O (leB O) (CF O ha (CF O hb (Ae))) (zM (sL [0,1] O) (q4 (asg' O (oNl' (q2 (asg' O (zx 3 1 (oNl' (q2 (asg' O (oNl' ?_)))))))))))
 refine q1 (q4 (asg' O (oNl' (zC (zN ?_)))))
 refine xB (tg λ(i:Nat) (cy:Nat) (p:Option Addr) (c:Nat) (ds:List Nat)=>Je ds/\i=ds.length/\OwnOk p i c/\cy<=1/\val10 ds+10000^i*cy=val10 ((dg a.x).take i)+val10 ((dg b.x).take i)/\(i<=max (dg a.x).length (dg b.x).length\/i<=max (dg a.x).length (dg b.x).length+1/\cy=0)) (tg λ(i:Nat) (cy:Nat) (p:Option Addr) (c:Nat) (ds:List Nat)=>[(0,(nV a)),(1,(nV b)),(4,jj),(6,(vN cy)),(7,(vN i)),(5,(qz p i c))]) (tg λ(i:Nat) (cy:Nat) (p:Option Addr) (c:Nat) (ds:List Nat)=>[rowW p 3 1 i c (dgL ds),nA a,nA b]) (tg λ(i:Nat) (cy:Nat) (p:Option Addr) (c:Nat) (ds:List Nat)=>max (dg a.x).length (dg b.x).length+2-i) 0 0 none 0 ([]) (⟨SA,rfl,OwnOk.none,Z,rfl,.inl Z⟩) (sF O) sr (λi cy p c ds hJ=>?_)
 obtain ⟨hdd,hk,ho,hcy,hv,hm⟩:=hJ
 have ga:=Gq a.x i
 have gb:=Gq b.x i
 refine zf (q4 (AJ O (AJ O (st' (v:=(vN ((dg a.x).length))) (AD O underlying79) O (st' (AW (c:=(decide (i<((dg a.x).length)))) O O (B_ (a:=i) (b:=(dg a.x).length))) O (AJ O ?_))))))
 refine zg (FM:=[(0,(nV a)),(1,(nV b)),(4,jj),(6,(vN cy)),(7,(vN i)),(5,(qz p i c)),(9,(vN i)),(10,(nV a)),(11,(vN ((dg a.x).length))),(12,(qa (decide (i<((dg a.x).length))))),(13,(qa (decide (i<((dg a.x).length))))),(18,(qa ((decide (i<((dg a.x).length)))||(decide (i<((dg b.x).length))))))]) (LM:=[rowW p 3 1 i c (dgL ds),nA a,nA b]) 5 ?_ ?_
 ·rcases xO (decide (i<((dg a.x).length))) with hg1|hg1
  ·refine zK (k:=13) (u:=qa true) O (by rw [hg1]) ?_
   have hg1':=xR hg1
   exact Aw O (Aw O (Aw O (Aw O (st' (v:=(qa true)) (ex_pick_true O O) O (oNl' (zS Bi (xP _)))))))
  ·refine zK (k:=13) (u:=qa false) O (by rw [hg1]) ?_
   have hg1':=xQ hg1
   exact EV O (EV O (Au (v:=(vN ((dg b.x).length))) O (AD O underlying79) (Au (v:=(qa (decide (i<((dg b.x).length))))) O (AW (c:=(decide (i<((dg b.x).length)))) O O (B_ (a:=i) (b:=(dg b.x).length))) (st' (v:=(qa (decide (i<((dg b.x).length))))) (AI O O) O (oNl' (zS Bi (xP _)))))))
 refine AJ O ?_
 refine zg (FM:=[(0,(nV a)),(1,(nV b)),(4,jj),(6,(vN cy)),(7,(vN i)),(5,(qz p i c)),(9,(vN i)),(10,(nV a)),(11,(vN ((dg a.x).length))),(12,(qa (decide (i<((dg a.x).length))))),(13,(qa (decide (i<((dg a.x).length))))),(18,(qa ((decide (i<((dg a.x).length)))||(decide (i<((dg b.x).length)))))),(19,(qa ((decide (i<((dg a.x).length)))||(decide (i<((dg b.x).length)))))),(22,(qa (((decide (i<((dg a.x).length)))||(decide (i<((dg b.x).length))))||(decide (0<cy)))))]) (LM:=[rowW p 3 1 i c (dgL ds),nA a,nA b]) 3 ?_ ?_
 ·rcases xO ((decide (i<((dg a.x).length)))||(decide (i<((dg b.x).length)))) with hg2|hg2
  ·refine zK (k:=19) (u:=qa true) O (by rw [hg2]) ?_
   have hg2':=hg2
   simp only [jK] at hg2'
   exact Aw O (Aw O (st' (v:=(qa true)) (ex_pick_true O O) O (oNl' (zS EW (xP _)))))
  ·refine zK (k:=19) (u:=qa false) O (by rw [hg2]) ?_
   have hg2':=hg2
   simp only [jK] at hg2'
   exact EV O (Au (v:=(qa (decide (0<cy)))) O (B2 (c:=(decide (0<cy))) O O (B_ (a:=0) (b:=cy))) (st' (v:=(qa (decide (0<cy)))) (AI O O) O (oNl' (zS EW (xP _)))))
 refine oNl' (zF (sL [0,1,4,6,7,5,22] O) (zC ?_))
 refine zO O (λhc0=>?_) (λhc0=>?_)
 ·simp only [jK] at hc0
  refine zJ (q1 (zN (q4 (AJ O (AJ O ?_)))))
  have hz1:=Gq a.x i
  refine Bx call212 (λw hw=>OC a i Z w (hw.holds (i:=1) O)) O (AJ O (AJ O ?_))
  have hz2:=Gq b.x i
  refine Bx call212 (λw hw=>OC b i Z w (hw.holds (i:=2) O)) O (st' (AV (c:=((((dg a.x).getD i 0)+((dg b.x).getD i 0):Nat):Int)) O O (AY (a:=(dg a.x).getD i 0) (b:=(dg b.x).getD i 0) Z)) O (AJ O (st' (AV (c:=(((((dg a.x).getD i 0)+((dg b.x).getD i 0))+cy:Nat):Int)) O O (AY (a:=((dg a.x).getD i 0)+((dg b.x).getD i 0)) (b:=cy) Z)) O (asg' O (q3 (sL [0,1,4,6,7,5,8] O) (AJ O (AJ O (st' (Dn (c:=((((((dg a.x).getD i 0)+((dg b.x).getD i 0))+cy)%10000:Nat):Int)) O O Z (RL (a:=(((dg a.x).getD i 0)+((dg b.x).getD i 0))+cy) (b:=10000))) O (zn (V:=λb1=>(qz (jk b1) 1 1)) (T:=3) (cs:=[(vN (((((dg a.x).getD i 0)+((dg b.x).getD i 0))+cy)%10000))]) (AM O) (BH (cs:=[(vN (((((dg a.x).getD i 0)+((dg b.x).getD i 0))+cy)%10000))]) (pv:=[(0,(vN (((((dg a.x).getD i 0)+((dg b.x).getD i 0))+cy)%10000)))]) underlying79 sizeOf3 zeroValue3 jY jY O jV) O (leB O) λb1=>yY (j:=0) (cs2:=dgL (ds++[((((dg a.x).getD i 0)+((dg b.x).getD i 0))+cy)%10000])) Xm O ho (by simp [Ce];omega) O O O O jY (KU Z) Z (by rw [FU];rfl) O λp_1 c_1 ho_1 hne_1=>asg' O ?_)))))))))
  refine oNl' (zF (sL [0,1,4,6,7,5,8] O) (zC (zQ (AJ O (st' (FV (c:=((((((dg a.x).getD i 0)+((dg b.x).getD i 0))+cy)/10000:Nat):Int)) O O Z (Fg (a:=(((dg a.x).getD i 0)+((dg b.x).getD i 0))+cy) (b:=10000) Z)) O (asg' O (oNl' (zF (sL [0,1,4,6,7,5,8] O) (zP (zC (zQ ?_)))))))))))
  refine AJ O (st' (AV (c:=((i+1:Nat):Int)) O O (AY (a:=i) (b:=1) Z)) O (asg' O (oNl' (zF (sL [0,1,4,6,7,5,8] O) ?_))))
  have hnx:i+1<=max (dg a.x).length (dg b.x).length\/i+1<=max (dg a.x).length (dg b.x).length+1/\((dg a.x).getD i 0+(dg b.x).getD i 0+cy)/10000=0:=by
            by_cases hi:i<max (dg a.x).length (dg b.x).length
            ·exact .inl Z
            ·refine .inr ⟨Z,?_⟩
             rw [EE (show ¬i<(dg a.x).length by omega),EE (show ¬i<(dg b.x).length by omega)]
             omega
  exact yx (i+1) (((dg a.x).getD i 0+(dg b.x).getD i 0+cy)/10000) p_1 c_1 (ds++[((dg a.x).getD i 0+(dg b.x).getD i 0+cy)%10000]) (⟨Ov hdd Z,by simp [hk],ho_1,Z,by rw [B4,B4];exact X0 hk hv O,hnx⟩) Z (sF O) (sl sr)
 ·simp only [jK] at hc0
  have hfin:val10 ds=a.x+b.x:=by rw [DF Z,DF Z,Cz,Cz,show cy=0 by omega] at hv;simpa using hv
  exact zY (zR (yX (zV (q2 (AJ O (Bx (args:=[(qz p i c)]) (v:=(qz p ((dg (val10 ds)).length) c)) call213 (λw hw=>(by have h9:=HL p c ds hdd (by rw [<-hk];exact ho.row) Z w (LK (hw.holds (i:=0) O) ho hk);rw [<-hk] at h9;exact h9)) O (asg' O (oNl' (zF (sL [0,1,4,6,7,5] O) (zC (zH (ret_one O (rd_tmp (v:=(qz p ((dg (val10 ds)).length) c)) O) (λw hw=>XF hw (i:=0) O ho hk (by rw [<-hfin];exact GH hdd) (by rw [hfin]))))))))))))))
theorem Sm (a b:NV) (hab:b.x<=a.x) (hla:(dg a.x).length<=549755813888) (w:World) (ha:Holds w (nA a)) (hb:Holds w (nA b)):Calls prog 210 #[(nV a),(nV b)] w (G0 w [] (a.x-b.x)):=by
 have hlb:=IV hab
 refine AR (args:=[(nV a),(nV b)]) (L:=[nA a,nA b]) func210 O O (leB O) (CF O ha (CF O hb (Ae))) (zM (sL [0,1] O) (q4 (asg' O (oNl' (q2 (asg' O (zx 3 1 (oNl' (q2 (asg' O (oNl' ?_)))))))))))
 refine q1 (q4 (asg' O (oNl' (zC (zN ?_)))))
 refine xB (tg λ(i:Nat) (ld:Nat) (p:Option Addr) (c:Nat) (ds:List Nat)=>Je ds/\i=ds.length/\OwnOk p i c/\ld<=1/\val10 ds+val10 ((dg b.x).take i)=val10 ((dg a.x).take i)+10000^i*ld/\i<=(dg a.x).length) (tg λ(i:Nat) (ld:Nat) (p:Option Addr) (c:Nat) (ds:List Nat)=>[(0,(nV a)),(1,(nV b)),(4,jj),(6,(vN ld)),(7,(vN i)),(5,(qz p i c))]) (tg λ(i:Nat) (ld:Nat) (p:Option Addr) (c:Nat) (ds:List Nat)=>[rowW p 3 1 i c (dgL ds),nA a,nA b]) (tg λ(i:Nat) (ld:Nat) (p:Option Addr) (c:Nat) (ds:List Nat)=>(dg a.x).length-i) 0 0 none 0 ([]) (⟨SA,rfl,OwnOk.none,Z,rfl,Z⟩) (sF O) sr (λi ld p c ds hJ=>?_)
 obtain ⟨hdd,hk,ho,hcy,hv,hm⟩:=hJ
 have ga:=Gq a.x i
 have gb:=Gq b.x i
 refine zf (q4 (AJ O (AJ O (st' (v:=(vN ((dg a.x).length))) (AD O underlying79) O (st' (AW (c:=(decide (i<((dg a.x).length)))) O O (B_ (a:=i) (b:=(dg a.x).length))) O (oNl' (zF (sL [0,1,4,6,7,5,12] O) (zC ?_))))))))
 refine zO O (λhc0=>?_) (λhc0=>?_)
 ·replace hc0:=xR hc0
  refine zJ (q1 (zN (zf (CE (Dm 6++[(8,true),(6,false),(7,true),(9,true),(10,true)]) sr (Bl O (Bl O (Ag (v:=(pP (pB a.p) (pO a.p+i*1))) O (AF (j:=i) O O a.ok underlying79 sizeOf3 O Z) (Ag O (Ab (v:=(vN ((dg a.x).getD i 0))) (i:=1) O O (a.ok.ne Z) BN (Dz (ds:=dg a.x) (j:=i) Z)) (Bl O (Bl O (Bl O ?_)))))))))))
  refine zL O ?_
  have hz1:=Gq b.x i
  refine Bx call212 (λw hw=>OC b i Z w (hw.holds (i:=2) O)) O (zG sr (Ag O (Bc (c:=((((dg a.x).getD i 0:Nat):Int)-(((dg b.x).getD i 0:Nat):Int))) O O (BZ Z Z)) (Ag O (Bc (c:=((((dg a.x).getD i 0:Nat):Int)-(((dg b.x).getD i 0:Nat):Int)-(ld:Int))) O O (BZ Z Z)) (pS' O (zT (zF (sL [0,1,4,6,7,5,8] O) (q2 (asg' O (oNl' (q1 (q4 ?_)))))))))))
  refine AJ O (st' (AW (c:=(decide (((((dg a.x).getD i 0:Nat):Int)-(((dg b.x).getD i 0:Nat):Int)-(ld:Int))<(0:Int)))) O O O) O (oNl' (zF (sL [0,1,4,6,7,5,8,26] O) (zC ?_))))
  refine xI (tg λ(d:Nat) (ld2:Nat)=>d<10000/\ld2<=1/\d+(dg b.x).getD i 0+ld=(dg a.x).getD i 0+10000*ld2) (tg λ(d:Nat) (ld2:Nat)=>[(0,(nV a)),(1,(nV b)),(4,jj),(7,(vN i)),(5,(qz p i c)),(8,(vN d)),(6,(vN ld2))]) (tg λ(d:Nat) (ld2:Nat)=>[rowW p 3 1 i c (dgL ds),nA a,nA b]) ?_ ?_
  ·refine zO O (λhc1=>?_) (λhc1=>?_)
   ·replace hc1:=xR hc1
    exact q4 (AJ O (st' (AV (c:=(((dg a.x).getD i 0+10000-(dg b.x).getD i 0-ld:Nat):Int)) O O (by rw [BZ Z Z];omega)) O (asg' O (oNl' (zF (sL [0,1,4,6,7,5,8] O) (zC (zQ (asg' O (oNl' (yd ((dg a.x).getD i 0+10000-(dg b.x).getD i 0-ld) 1 (⟨Z,Z,Z⟩) (sF O) sr))))))))))
   ·replace hc1:=xQ hc1
    exact yT (k:=8) (u:=(vN ((dg a.x).getD i 0-(dg b.x).getD i 0-ld))) O (by show Value.int _ _=Value.int _ _;congr 1;omega) (zJ (yd ((dg a.x).getD i 0-(dg b.x).getD i 0-ld) 0 (⟨Z,Z,Z⟩) (sF O) sr))
  ·intro d ld2 hJ
   obtain ⟨hd,hl2,hd2⟩:=hJ
   refine zC (zQ (AJ O (AJ O (zn (V:=λb1=>(qz (jk b1) 1 1)) (T:=3) (cs:=[(vN d)]) (AM O) (BH (cs:=[(vN d)]) (pv:=[(0,(vN d))]) underlying79 sizeOf3 zeroValue3 jY jY O jV) O (leB O) λb1=>yY (j:=0) (cs2:=dgL (ds++[d])) Xm O ho (by simp [Ce];omega) O O O O jY (KU Z) Z (by rw [FU];rfl) O λp_1 c_1 ho_1 hne_1=>asg' O (oNl' (zF (sL [0,1,4,7,5,8,6] O) (zP (zC (zQ ?_)))))))))
   exact AJ O (st' (AV (c:=((i+1:Nat):Int)) O O (AY (a:=i) (b:=1) Z)) O (asg' O (oNl' (zF (sL [0,1,4,7,5,8,6] O) (yx (i+1) ld2 p_1 c_1 (ds++[d]) (⟨Ov hdd Z,by simp [hk],ho_1,Z,by rw [B4,B4];exact Nl hk hv hd2,Z⟩) Z (sF O) (sl sr))))))
 ·replace hc0:=xQ hc0
  have hfin:val10 ds=a.x-b.x:=by
   rw [DF Z,DF Z,Cz,Cz] at hv
   exact Ow hdd hk Z hab hv
  exact zY (zR (yX (zV (q2 (AJ O (Bx (args:=[(qz p i c)]) (v:=(qz p ((dg (val10 ds)).length) c)) call213 (λw hw=>(by have h9:=HL p c ds hdd (by rw [<-hk];exact ho.row) Z w (LK (hw.holds (i:=0) O) ho hk);rw [<-hk] at h9;exact h9)) O (asg' O (oNl' (zF (sL [0,1,4,6,7,5] O) (zC (zH (ret_one O (rd_tmp (v:=(qz p ((dg (val10 ds)).length) c)) O) (λw hw=>XF hw (i:=0) O ho hk (by rw [<-hfin];exact GH hdd) (by rw [hfin]))))))))))))))
theorem N_ (a b:NV) (hla:(dg a.x).length<=549755813888) (hlb:(dg b.x).length<=549755813888) (w:World) (ha:Holds w (nA a)) (hb:Holds w (nA b)):Calls prog 211 #[(nV a),(nV b)] w (AX w (vI (DO a.x b.x))):=by
 refine AR (args:=[(nV a),(nV b)]) (L:=[nA a,nA b]) func211 O O (leB O) (CF O ha (CF O hb (Ae))) (zM (sL [0,1] O) (q4 (asg' O (oNl' (q1 (q4 (AJ O (st' (v:=(vN ((dg a.x).length))) (AD O underlying79) O (AJ O (st' (v:=(vN ((dg b.x).length))) (AD O underlying79) O (st' (AW (c:=(decide (((dg a.x).length)<((dg b.x).length)))) O O (B_ (a:=(dg a.x).length) (b:=(dg b.x).length))) O ?_)))))))))))
 refine oNl' (zF (sL [0,1,4,10] O) (zC ?_))
 refine zO O (λhc0=>?_) (λhc0=>?_)
 ·replace hc0:=xR hc0
  have hz:DO a.x b.x = -1:=if_pos (Mq hc0)
  exact q4 (asg' O (oNl' (zC (zH (zI (ret_one O (rd_tmp (v:=(vI (-1:Int))) O) (λw hw=>⟨by rw [hz],hw.out⟩)))))))
 ·replace hc0:=xQ hc0
  refine zJ (q1 (q4 (AJ O (st' (v:=(vN ((dg a.x).length))) (AD O underlying79) O (AJ O (st' (v:=(vN ((dg b.x).length))) (AD O underlying79) O (st' (B2 (c:=(decide (((dg b.x).length)<((dg a.x).length)))) O O (B_ (a:=(dg b.x).length) (b:=(dg a.x).length))) O (oNl' (zF (sL [0,1,4,15] O) (zC ?_))))))))))
  refine zO O (λhc1=>?_) (λhc1=>?_)
  ·replace hc1:=xR hc1
   have hz:DO a.x b.x=1:=by
      have h9:=Mq hc1
      unfold DO;rw [if_neg Z,if_neg Z]
   exact q4 (asg' O (oNl' (zC (zH (zI (ret_one O (rd_tmp (v:=(vI 1)) O) (λw hw=>⟨by rw [hz],hw.out⟩)))))))
  ·replace hc1:=xQ hc1
   refine zJ (q1 (q4 (AJ O (st' (v:=(vN ((dg a.x).length))) (AD O underlying79) O (st' (Bc (c:=((((dg a.x).length:Nat):Int)-1)) O O (BZ Z Z)) O (asg' O (oNl' (zF (sL [0,1,4,5] O) (zC (zN ?_))))))))))
   refine zw (tg λ(j:Nat)=>j<=(dg a.x).length/\(dg a.x).drop j=(dg b.x).drop j) (tg λ(j:Nat)=>[(0,(nV a)),(1,(nV b)),(5,(vI (((j:Nat):Int)-1)))]) (tg λ(j:Nat)=>[nA a,nA b]) (tg λ(j:Nat)=>j) ((dg a.x).length) (⟨Nat.le_refl _,by rw [List.drop_length,List.drop_of_length_le Z]⟩) (sF O) sr (λj hJ=>?_)
   obtain ⟨hm,hd⟩:=hJ
   have hl:(dg a.x).length=(dg b.x).length:=by omega
   refine zf (q4 (AJ O (st' (CU (c:=(decide ((0:Int)<=(((j:Nat):Int)-1)))) O O O) O (oNl' (zF (sL [0,1,5,20] O) (zC ?_))))))
   refine zO O (λhc2=>?_) (λhc2=>?_)
   ·replace hc2:=xR hc2
    have hdj:(dg a.x).drop (j-1+1)=(dg b.x).drop (j-1+1):=by rw [Nat.sub_add_cancel Z];exact hd
    refine yT (k:=5) (u:=(vN (j-1))) O (by show Value.int _ _=Value.int _ _;congr 1;omega) (zJ (q1 (zN (zf (zf (CE (Dm 9) sr (Bl O (Bl O (Ag (v:=(pP (pB a.p) (pO a.p+(j-1)*1))) O (AF (j:=j-1) O O a.ok underlying79 sizeOf3 O Z) (Ag O (Ab (v:=(vN ((dg a.x).getD (j-1) 0))) (i:=0) O O (a.ok.ne Z) BN (Dz (ds:=dg a.x) (j:=j-1) Z)) (Bl O ?_)))))))))))
    refine Bl O (Ag (v:=(pP (pB b.p) (pO b.p+(j-1)*1))) O (AF (j:=j-1) O O b.ok underlying79 sizeOf3 O Z) (Ag O (Ab (v:=(vN ((dg b.x).getD (j-1) 0))) (i:=1) O O (b.ok.ne Z) BN (Dz (ds:=dg b.x) (j:=j-1) Z)) (Ag O (AW (c:=(decide (((dg a.x).getD (j-1) 0)<((dg b.x).getD (j-1) 0)))) O O (B_ (a:=(dg a.x).getD (j-1) 0) (b:=(dg b.x).getD (j-1) 0))) (zT (zF (sL [0,1,5,31] O) (zC ?_))))))
    refine zO O (λhc3=>?_) (λhc3=>?_)
    ·replace hc3:=xR hc3
     have hz:DO a.x b.x = -1:=if_pos (Vk hl Z hdj hc3)
     exact q4 (asg' O (oNl' (zC (zH (zI (zU (zI (zr (zU (zI (ret_one O (rd_tmp (v:=(vI (-1:Int))) O) (λw hw=>⟨by rw [hz],hw.out⟩))))))))))))
    ·replace hc3:=xQ hc3
     refine zJ (q1 (CE (Dm 9) sr (Bl O (Bl O (Ag (v:=(pP (pB a.p) (pO a.p+(j-1)*1))) O (AF (j:=j-1) O O a.ok underlying79 sizeOf3 O Z) (Ag O (Ab (v:=(vN ((dg a.x).getD (j-1) 0))) (i:=0) O O (a.ok.ne Z) BN (Dz (ds:=dg a.x) (j:=j-1) Z)) (Bl O (Bl O (Ag (v:=(pP (pB b.p) (pO b.p+(j-1)*1))) O (AF (j:=j-1) O O b.ok underlying79 sizeOf3 O Z) (Ag O (Ab (v:=(vN ((dg b.x).getD (j-1) 0))) (i:=1) O O (b.ok.ne Z) BN (Dz (ds:=dg b.x) (j:=j-1) Z)) (Ag O (B2 (c:=(decide (((dg b.x).getD (j-1) 0)<((dg a.x).getD (j-1) 0)))) O O (B_ (a:=(dg b.x).getD (j-1) 0) (b:=(dg a.x).getD (j-1) 0))) ?_)))))))))))
     refine zT (zF (sL [0,1,5,40] O) (zC ?_))
     refine zO O (λhc4=>?_) (λhc4=>?_)
     ·replace hc4:=xR hc4
      have hz:DO a.x b.x=1:=by
        have h9:=Vk hl.symm Z hdj.symm hc4
        unfold DO;rw [if_neg Z,if_neg Z]
      exact q4 (asg' O (oNl' (zC (zH (zU (zI (zr (zU (zI (ret_one O (rd_tmp (v:=(vI 1)) O) (λw hw=>⟨by rw [hz],hw.out⟩)))))))))))
     ·replace hc4:=xQ hc4
      exact zJ (zP (zC (zQ (AJ O (st' (Bc (c:=(((j-1:Nat):Int)-1)) O O (BZ Z Z)) O (asg' O (oNl' (zF (sL [0,1,5] O) (zm (j-1) (⟨Z,Ou hl Z hdj Z⟩) Z (sF O) sr)))))))))
   ·replace hc2:=xQ hc2
    obtain rfl:j=0:=by omega
    have hz:DO a.x b.x=0:=Nj.2 (bB hd)
    exact zY (zR (zh (zV (q2 (asg' O (oNl' (zC (zH (ret_one O (rd_tmp (v:=(vI 0)) O) (λw hw=>⟨by rw [hz],hw.out⟩))))))))))
end
section
set_option maxRecDepth 100000
theorem eU:Oe prog 79 3 (vN 0) 8:=⟨underlying79,_,_,rfl,rfl,rfl,rfl,rfl⟩
theorem Pk (a:NV) (k:Nat) (hk:k<=1099511627776) (hla:(dg a.x).length<=1099511627776) (hv:a.x/10000^k<9223372036854775808) (w:World) (ha:Holds w (nA a)):Calls prog 245 #[(nV a),(vN k)] w (AX w (vN (a.x/10000^k))):=by
 refine AR (args:=[(nV a),(vN k)]) (L:=[nA a]) func245 O O (leB O) (CF O ha (Ae)) (zM (sL [0,1] O) (q4 (asg' O (oNl' (q2 (asg' O (oNl' (q1 (q4 (AJ O (st' (v:=(vN ((dg a.x).length))) (AD O underlying79) O ?_)))))))))))
 refine st' (Bc (c:=((((dg a.x).length:Nat):Int)-1)) O O (BZ Z Z)) O (asg' O (oNl' (zF (sL [0,1,4,5,6] O) (zC (zN ?_)))))
 refine yM (tg λ(n:Nat) (j:Nat)=>j<=(dg a.x).length/\(k<=j\/j=(dg a.x).length)/\n=a.x/10000^j) (tg λ(n:Nat) (j:Nat)=>[(0,(nV a)),(1,(vN k)),(4,(vI 0)),(5,(vN n)),(6,(vI (((j:Nat):Int)-1)))]) (tg λ(n:Nat) (j:Nat)=>[nA a]) (tg λ(n:Nat) (j:Nat)=>j) 0 ((dg a.x).length) (⟨Nat.le_refl _,.inr O,(Vl a.x).symm⟩) (sF O) sr (λn j hJ=>?_)
 obtain ⟨hm,hkj,hn⟩:=hJ
 refine zf (q4 (AJ O (AJ O (st' (CU (c:=(decide (((k:Nat):Int)<=(((j:Nat):Int)-1)))) O O O) O (oNl' (zF (sL [0,1,4,5,6,12] O) (zC ?_)))))))
 refine zO O (λhc0=>?_) (λhc0=>?_)
 ·replace hc0:=xR hc0
  have hj1:1<=j:=by omega
  have hst:=SF a.x (j-1)
  rw [Nat.sub_add_cancel hj1,<-hn] at hst
  have hle:=Kt a.x (show k<=j-1 by omega)
  refine yT (k:=6) (u:=(vN (j-1))) O (by show Value.int _ _=Value.int _ _;congr 1;omega) (zJ (q1 (zN (zQ (AJ O (st' (D7 (c:=((10000*n:Nat):Int)) O O (GN (a:=10000) (b:=n) Z)) O (AJ O (AJ O (st' (v:=(pP (pB a.p) (pO a.p+(j-1)*1))) (AF (j:=j-1) O O a.ok underlying79 sizeOf3 O Z) O (st' (Ab (v:=(vN ((dg a.x).getD (j-1) 0))) (i:=0) O O (a.ok.ne Z) BN (Dz (ds:=dg a.x) (j:=j-1) Z)) O (st' (AV (c:=(((10000*n)+((dg a.x).getD (j-1) 0):Nat):Int)) O O (AY (a:=10000*n) (b:=(dg a.x).getD (j-1) 0) Z)) O ?_)))))))))))
  exact asg' O (oNl' (zF (sL [0,1,4,5,6] O) (zP (zC (zQ (AJ O (st' (Bc (c:=(((j-1:Nat):Int)-1)) O O (BZ Z Z)) O (asg' O (oNl' (zF (sL [0,1,4,5,6] O) (z6 ((10000*n)+((dg a.x).getD (j-1) 0)) (j-1) (⟨Z,Z,Z⟩) Z (sF O) sr)))))))))))
 ·replace hc0:=xQ hc0
  have hfin:n=a.x/10000^k:=O2 hn hkj Z
  exact zY (zR (zp (zV (q2 (AJ O (asg' O (oNl' (zF (sL [0,1,4,5,6] O) (zC (zH (ret_one O (rd_tmp (v:=(vN n)) O) (λw hw=>⟨by rw [hfin],hw.out⟩))))))))))))
theorem OB (a b:NV) (hla:(dg a.x).length<=549755813888) (hlb:(dg b.x).length<=549755813888) (w:World) (ha:Holds w (nA a)) (hb:Holds w (nA b)):Calls prog 162 #[(nV a),(nV b)] w (G0 w [] (a.x*b.x)):=by
 refine AR (args:=[(nV a),(nV b)]) (L:=[nA a,nA b]) func162 O O (leB O) (CF O ha (CF O hb (Ae))) (zM (sL [0,1] O) (q4 (asg' O (oNl' (q2 (AJ O (st' (v:=(vN ((dg a.x).length))) (AD O underlying79) O (AJ O (st' (v:=(vN ((dg b.x).length))) (AD O underlying79) O (st' (AV (c:=((((dg a.x).length)+((dg b.x).length):Nat):Int)) O O (AY (a:=(dg a.x).length) (b:=(dg b.x).length) Z)) O (xD (m:=((dg a.x).length)+((dg b.x).length)) eU O O Z O O λb1 ho_b1=>?_)))))))))))
 refine asg' O (q6 (sL [0,1,4,5] O) (q4 (asg' O (oNl' (zC (zN ?_))))))
 refine yM (tg λ(i:Nat) (ds:List Nat)=>Je ds/\(dg a.x).length+(dg b.x).length=ds.length/\i<=(dg a.x).length/\val10 ds=val10 ((dg a.x).take i)*b.x) (tg λ(i:Nat) (ds:List Nat)=>[(0,(nV a)),(1,(nV b)),(4,jj),(5,(qz (jk b1) (((dg a.x).length)+((dg b.x).length)) (((dg a.x).length)+((dg b.x).length)))),(6,(vN i))]) (tg λ(i:Nat) (ds:List Nat)=>[rowW (jk b1) 3 1 ((dg a.x).length+(dg b.x).length) ((dg a.x).length+(dg b.x).length) (dgL ds),nA a,nA b]) (tg λ(i:Nat) (ds:List Nat)=>(dg a.x).length-i) 0 (List.replicate ((dg a.x).length+(dg b.x).length) 0) (⟨Mp _,by simp,xu _,by rw [Ju];simp [val10]⟩) (sF O) sr (λi ds hJ=>?_)
 obtain ⟨hdd,hk,hm,hv⟩:=hJ
 have ga:=Gq a.x i
 refine zf (q4 (AJ O (AJ O (st' (v:=(vN ((dg a.x).length))) (AD O underlying79) O (st' (AW (c:=(decide (i<((dg a.x).length)))) O O (B_ (a:=i) (b:=(dg a.x).length))) O (oNl' (zF (sL [0,1,4,5,6,19] O) (zC ?_))))))))
 refine zO O (λhc0=>?_) (λhc0=>?_)
 ·replace hc0:=xR hc0
  refine zJ (q1 (zN (q4 (asg' O (oNl' (q2 (asg' O (oNl' (zC (zN ?_))))))))))
  refine yW (tg λ(cy:Nat) (k:Nat) (es:List Nat)=>Je es/\(dg a.x).length+(dg b.x).length=es.length/\cy<10000/\(k<=(dg b.x).length\/k=(dg b.x).length+1/\cy=0)/\val10 es+10000^(i+k)*cy=val10 ds+10000^i*(dg a.x).getD i 0*val10 ((dg b.x).take k)) (tg λ(cy:Nat) (k:Nat) (es:List Nat)=>[(0,(nV a)),(1,(nV b)),(4,jj),(5,(qz (jk b1) (((dg a.x).length)+((dg b.x).length)) (((dg a.x).length)+((dg b.x).length)))),(6,(vN i)),(7,(vN cy)),(8,(vN k))]) (tg λ(cy:Nat) (k:Nat) (es:List Nat)=>[rowW (jk b1) 3 1 ((dg a.x).length+(dg b.x).length) ((dg a.x).length+(dg b.x).length) (dgL es),nA a,nA b]) (tg λ(cy:Nat) (k:Nat) (es:List Nat)=>(dg b.x).length+2-k) 0 0 ds (⟨hdd,hk,Z,.inl (xu _),by simp [val10]⟩) (sF O) sr (λcy k es hJ=>?_)
  obtain ⟨hee,hke,hcy,hme,hve⟩:=hJ
  have gb:=Gq b.x k
  have ge:=Ye hee (i+k)
  have hbd:=To ge ga gb hcy
  have hab:(dg a.x).getD i 0*(dg b.x).getD k 0<=9999*9999:=Nat.mul_le_mul Z Z
  refine zf (q4 (AJ O (AJ O (st' (v:=(vN ((dg b.x).length))) (AD O underlying79) O (st' (AW (c:=(decide (k<((dg b.x).length)))) O O (B_ (a:=k) (b:=(dg b.x).length))) O (AJ O ?_))))))
  refine zg (FM:=[(0,(nV a)),(1,(nV b)),(4,jj),(5,(qz (jk b1) (((dg a.x).length)+((dg b.x).length)) (((dg a.x).length)+((dg b.x).length)))),(6,(vN i)),(7,(vN cy)),(8,(vN k)),(22,(vN k)),(23,(nV b)),(24,(vN ((dg b.x).length))),(25,(qa (decide (k<((dg b.x).length))))),(26,(qa (decide (k<((dg b.x).length))))),(29,(qa ((decide (k<((dg b.x).length)))||(decide (0<cy)))))]) (LM:=[rowW (jk b1) 3 1 ((dg a.x).length+(dg b.x).length) ((dg a.x).length+(dg b.x).length) (dgL es),nA a,nA b]) 3 ?_ ?_
  ·rcases xO (decide (k<((dg b.x).length))) with hg1|hg1
   ·refine zK (k:=26) (u:=qa true) O (by rw [hg1]) ?_
    have hg1':=xR hg1
    exact Aw O (Aw O (st' (v:=(qa true)) (ex_pick_true O O) O (oNl' (zS Bi (xP _)))))
   ·refine zK (k:=26) (u:=qa false) O (by rw [hg1]) ?_
    have hg1':=xQ hg1
    exact EV O (Au (v:=(qa (decide (0<cy)))) O (B2 (c:=(decide (0<cy))) O O (B_ (a:=0) (b:=cy))) (st' (v:=(qa (decide (0<cy)))) (AI O O) O (oNl' (zS Bi (xP _)))))
  refine oNl' (zF (sL [0,1,4,5,6,7,8,29] O) (zC ?_))
  refine zO O (λhc1=>?_) (λhc1=>?_)
  ·simp only [jK] at hc1
   refine zJ (q1 (zN (zf (CE (Dm 12++[(15,true),(12,false),(13,true),(14,true),(16,true),(17,true)]) sr (Bl O (Bl O (Bl O (Ag O (AV (c:=((i+k:Nat):Int)) O O (AY (a:=i) (b:=k) Z)) (Ag (v:=(pP (pB (jk b1)) (pO (jk b1)+(i+k)*1))) O (AF (j:=i+k) O O ho_b1.row underlying79 sizeOf3 O Z) (Ag O (JD (v:=(vN (es.getD (i+k) 0))) (i:=0) O O ho_b1 (by simp [Ce];omega) (ho_b1.row.ne Z) BN (Dz (ds:=es) (j:=i+k) Z)) (Bl O ?_)))))))))))
   refine Bl O (Ag (v:=(pP (pB a.p) (pO a.p+i*1))) O (AF (j:=i) O O a.ok underlying79 sizeOf3 O Z) (Ag O (Ab (v:=(vN ((dg a.x).getD i 0))) (i:=1) O O (a.ok.ne Z) BN (Dz (ds:=dg a.x) (j:=i) Z)) (Bl O (Bl O (Bl O (zL O ?_))))))
   have hz1:=Gq b.x k
   refine Bx call212 (λw hw=>OC b k Z w (hw.holds (i:=2) O)) O (zG sr (Ag O (D7 (c:=((((dg a.x).getD i 0)*((dg b.x).getD k 0):Nat):Int)) O O (GN (a:=(dg a.x).getD i 0) (b:=(dg b.x).getD k 0) Z)) (Ag O (AV (c:=(((es.getD (i+k) 0)+(((dg a.x).getD i 0)*((dg b.x).getD k 0)):Nat):Int)) O O (AY (a:=es.getD (i+k) 0) (b:=((dg a.x).getD i 0)*((dg b.x).getD k 0)) Z)) (Ag O (AV (c:=((((es.getD (i+k) 0)+(((dg a.x).getD i 0)*((dg b.x).getD k 0)))+cy:Nat):Int)) O O (AY (a:=(es.getD (i+k) 0)+(((dg a.x).getD i 0)*((dg b.x).getD k 0))) (b:=cy) Z)) (pS' O (zT (zF (sL [0,1,4,5,6,7,8,9] O) (q2 (AJ O (AJ O (AJ O ?_)))))))))))
   refine st' (AV (c:=((i+k:Nat):Int)) O O (AY (a:=i) (b:=k) Z)) O (AJ O (st' (Dn (c:=(((((es.getD (i+k) 0)+(((dg a.x).getD i 0)*((dg b.x).getD k 0)))+cy)%10000:Nat):Int)) O O Z (RL (a:=((es.getD (i+k) 0)+(((dg a.x).getD i 0)*((dg b.x).getD k 0)))+cy) (b:=10000))) O (st' (v:=(pP (pB (jk b1)) (pO (jk b1)+(i+k)*1))) (AF (j:=i+k) O O ho_b1.row underlying79 sizeOf3 O Z) O (AQ.storeRow0 (j:=i+k) (v:=(vN ((((es.getD (i+k) 0)+(((dg a.x).getD i 0)*((dg b.x).getD k 0)))+cy)%10000))) O O ho_b1 (by simp [Ce];omega) Z O sizeOf3 O (SD _ _ _) (oNl' (zF (sL [0,1,4,5,6,7,8,9] O) (zC (zQ (AJ O (st' (FV (c:=(((((es.getD (i+k) 0)+(((dg a.x).getD i 0)*((dg b.x).getD k 0)))+cy)/10000:Nat):Int)) O O Z (Fg (a:=((es.getD (i+k) 0)+(((dg a.x).getD i 0)*((dg b.x).getD k 0)))+cy) (b:=10000) Z)) O (asg' O ?_)))))))))))
   refine oNl' (zF (sL [0,1,4,5,6,7,8,9] O) (zP (zC (zQ (AJ O (st' (AV (c:=((k+1:Nat):Int)) O O (AY (a:=k) (b:=1) Z)) O (asg' O (oNl' (zF (sL [0,1,4,5,6,7,8,9] O) ?_)))))))))
   have hnx:k+1<=(dg b.x).length\/k+1=(dg b.x).length+1/\(es.getD (i+k) 0+(dg a.x).getD i 0*(dg b.x).getD k 0+cy)/10000=0:=by
            by_cases hkb:k<(dg b.x).length
            ·exact .inl Z
            ·obtain rfl:k=(dg b.x).length:=by omega
             refine .inr ⟨rfl,?_⟩
             rw [DF Z,Cz] at hve
             have h9:=Wf (hV:=ZG a.x b.x i hv) hve
             rw [EE (show ¬(dg b.x).length<(dg b.x).length by omega),Nat.mul_zero,Nat.add_zero]
             omega
   exact yN ((((es.getD (i+k) 0)+(((dg a.x).getD i 0)*((dg b.x).getD k 0)))+cy)/10000) (k+1) (es.set (i+k) ((es.getD (i+k) 0+(dg a.x).getD i 0*(dg b.x).getD k 0+cy)%10000)) (⟨SB hee Z,by simpa using hke,Z,hnx,by rw [B4];exact Q7 Z hve O⟩) Z (sF O) sr
  ·simp only [jK] at hc1
   have hve2:val10 es=val10 ((dg a.x).take (i+1))*b.x:=by
        rw [show cy=0 by omega,DF Z,Cz,hv,Nat.mul_zero,Nat.add_zero] at hve
        rw [hve,B4,Nat.add_mul]
   exact zY (zR (yF (zV (zP (zC (zQ (AJ O (st' (AV (c:=((i+1:Nat):Int)) O O (AY (a:=i) (b:=1) Z)) O (asg' O (oNl' (zF (sL [0,1,4,5,6,7,8] O) (z6 (i+1) es (⟨hee,hke,Z,hve2⟩) Z (sF O) sr))))))))))))
 ·replace hc0:=xQ hc0
  have hfin:val10 ds=a.x*b.x:=by rw [hv,DF Z,Cz]
  exact zY (zR (zp (zV (q2 (AJ O (Bx (args:=[(qz (jk b1) (((dg a.x).length)+((dg b.x).length)) (((dg a.x).length)+((dg b.x).length)))]) (v:=(qz (jk b1) ((dg (val10 ds)).length) (((dg a.x).length)+((dg b.x).length)))) call213 (λw hw=>(by have h9:=HL (jk b1) (((dg a.x).length)+((dg b.x).length)) ds hdd (by rw [<-hk];exact ho_b1.row) Z w (LK (hw.holds (i:=0) O) ho_b1 hk);rw [<-hk] at h9;exact h9)) O (asg' O (oNl' (zF (sL [0,1,4,5,6] O) (zC (zH (ret_one O (rd_tmp (v:=(qz (jk b1) ((dg (val10 ds)).length) (((dg a.x).length)+((dg b.x).length)))) O) (λw hw=>XF hw (i:=0) O ho_b1 hk (by rw [<-hfin];exact GH hdd) (by rw [hfin]))))))))))))))
end
section
set_option maxRecDepth 100000
theorem Ya {a b:Nat} (h:b<a):0<DO a b:=by unfold DO;rw [if_neg Z,if_neg Z];omega
theorem Ve {a b:Nat} (h:¬DO a b<=0):b<a:=by
 unfold DO at h
 split at h
 ·omega
 ·split at h<;>omega
theorem Sl (a b:NV) (hb0:0<b.x) (hla:(dg a.x).length<=274877906944) (hlb:(dg b.x).length<=274877906944) (w:World) (ha:Holds w (nA a)) (hb:Holds w (nA b)):Calls prog 209 #[(nV a),(nV b)] w (KC w [] [a.p.map (·.block)] (a.x/b.x) (a.x%b.x)):=by
 obtain ⟨k,hk⟩:∃k,k=(dg b.x).length-3:=⟨_,rfl⟩
 obtain ⟨tp,htp⟩:∃tp,tp=b.x/10000^k:=⟨_,rfl⟩
 have htb:=Yf b.x
 have htp1:=Qi hb0
 rw [<-hk] at htb htp1
 rw [<-htp] at htp1
 have htb2:=htb
 rw [<-htp] at htb2
 have hlb1:=(Ks hb0).2
 refine AR (args:=[(nV a),(nV b)]) (L:=[nA a,nA b]) func209 O O (leB O) (CF O ha (CF O hb (Ae))) (zM (sL [0,1] O) (q4 (asg' O (asg' O (oNl' (q1 (q4 (AJ O (AJ O (Bx call211 (λw hw=>N_ a b (by first|omega|(dsimp only;omega)) (by first|omega|(dsimp only;omega)) w (hw.holds (i:=0) O) (hw.holds (i:=1) O)) O (st' (AW (c:=(decide ((DO a.x b.x)<(0:Int)))) O O O) O ?_)))))))))))
 refine oNl' (zF (sL [0,1,4,5,18] O) (zC ?_))
 refine zO O (λhc0=>?_) (λhc0=>?_)
 ·replace hc0:=xR hc0
  rw [Fq] at hc0
  exact q4 (AJ O (asg' O (asg' O (oNl' (zF (sL [0,1,4,5] O) (zC (zH (zI (BR O (rd_tmp (v:=jj) O) (rd_tmp (v:=(nV a)) O) (λw hw=>(by rw [Nat.mod_eq_of_lt hc0];exact cG hw (Nat.div_eq_of_lt hc0) (k:=0) O)))))))))))
 ·replace hc0:=xQ hc0
  rw [Fq] at hc0
  have hlab:=IV (Nat.le_of_not_lt hc0)
  obtain ⟨m,hm1⟩:∃m,m=(dg a.x).length-(dg b.x).length+1:=⟨_,rfl⟩
  have hm:m+(dg b.x).length=(dg a.x).length+1:=by omega
  refine zJ (q2 (AJ O (st' (v:=(vN ((dg b.x).length))) (AD O underlying79) O (st' (Bc (c:=((((dg b.x).length:Nat):Int)-3)) O O (BZ Z Z)) O (st' (E6 (c:=((k:Nat):Int)) O O (by split<;>omega)) O (asg' O (q3 (sL [0,1,4,5,6] O) (AJ O (AJ O (Bx (args:=[(nV b),(vN k)]) (v:=(vN tp)) call245 (λw hw=>(by rw [htp];exact Pk b k Z (by first|omega|(dsimp only;omega)) (by first|omega|(dsimp only;omega)) w (hw.holds (i:=1) O))) O (asg' O ?_)))))))))))
  refine q3 (sL [0,1,4,5,6,7] O) (AJ O (st' (v:=(vN ((dg a.x).length))) (AD O underlying79) O (AJ O (st' (v:=(vN ((dg b.x).length))) (AD O underlying79) O (st' (Bc (c:=(((m:Nat):Int)-1)) O O (by rw [BZ Z Z];omega)) O (asg' O (q3 (sL [0,1,4,5,6,7,8] O) (AJ O (st' (AV (c:=((m:Nat):Int)) O O (by rw [BZ Z Z];omega)) O (xD (m:=m) eU O O Z O O λb1 ho_b1=>asg' O ?_))))))))))
  refine q3 (sL [0,1,4,5,6,7,8,9] O) (zn (V:=λb2=>(qz (jk b2) 0 0)) (T:=3) (cs:=[]) (AM O) (Hj underlying79 sizeOf3) O (leB O) λb2=>yg (z:=1) 0 O Z λho_b2=>AJ O (AJ O (st' (AV (c:=((m:Nat):Int)) O O (by rw [BZ Z Z];omega)) O (st' (v:=(qz (dC a.p m a.c 1) ((dg a.x).length-m) (a.c-m))) (O_ (i:=m) O O underlying79 sizeOf3 Z a.ok.le) O (yz (cs2:=dgL (([])++(((dg a.x)).drop m))) (news:=dgL (((dg a.x)).drop m)) Xm O ho_b2 O O (cY (k:=2) O a.ok Z) (by simp [Ce]) (SC _) (KU Z) Z (by rw [FU];rfl) O λp_1 c_1 ho_1=>xC 0 (X:=a.x/10000^m) O ho_1 jX (by rw [<-SE];exact (List.take_length).symm) O λhok0 hloc0=>zK (k:=40) (u:=(qz p_1 ((dg (a.x/10000^m)).length) c_1)) O (by rw [show 0+((dg a.x).length-m)=(dg (a.x/10000^m)).length by rw [<-SE];simp]) (asg' O (q6 (sL [0,1,4,5,6,7,8,9,10] O) ?_)))))))
  refine zN ?_
  refine xB (tg λ(j:Nat) (qs:List Nat) (R:Nat) (p:Option Addr) (c:Nat)=>j<=m/\Je qs/\m=qs.length/\val10 qs=10000^j*(a.x/10000^j/b.x)/\R=a.x/10000^j%b.x/\Ao p (dg R).length c/\EJ w [] p) (tg λ(j:Nat) (qs:List Nat) (R:Nat) (p:Option Addr) (c:Nat)=>[(0,(nV a)),(1,(nV b)),(4,jj),(5,jj),(6,(vN k)),(7,(vN tp)),(9,(qz (jk b1) m m)),(8,(vI (((j:Nat):Int)-1))),(10,(qz p ((dg R).length) c))]) (tg λ(j:Nat) (qs:List Nat) (R:Nat) (p:Option Addr) (c:Nat)=>[AC p (dgL (dg R)),rowW (jk b1) 3 1 m m (dgL qs),nA a,nA b]) (tg λ(j:Nat) (qs:List Nat) (R:Nat) (p:Option Addr) (c:Nat)=>j) m (List.replicate m 0) (a.x/10000^m) p_1 c_1 (⟨Nat.le_refl _,Mp _,by simp,by rw [Ju,Nat.div_eq_of_lt (O3 hb0 hm),Nat.mul_zero],(Nat.mod_eq_of_lt (O3 hb0 hm)).symm,hok0,hloc0⟩) (sF O) sr (λj qs R p c hJ=>?_)
  obtain ⟨hj,hdd,hk,hv,hR,hok,hloc⟩:=hJ
  refine zf (q4 (AJ O (st' (CU (c:=(decide ((0:Int)<=(((j:Nat):Int)-1)))) O O O) O (oNl' (zF (sL [0,1,4,5,6,7,9,8,10,42] O) (zC ?_))))))
  refine zO O (λhc1=>?_) (λhc1=>?_)
  ·replace hc1:=xR hc1
   have hj1:1<=j:=by omega
   obtain ⟨R1,hR1⟩:∃R1,R1=10000*R+(dg a.x).getD (j-1) 0:=⟨_,rfl⟩
   have hRb:R<b.x:=by rw [hR];exact Nat.mod_lt _ hb0
   have hd1:=Gq a.x (j-1)
   have hR1b:R1<10000*b.x:=by omega
   have hA:=SF a.x (j-1)
   rw [Nat.sub_add_cancel hj1] at hA
   have hst:=Qk hb0 hA hR hR1
   have hR1l:(dg R1).length<=(dg b.x).length+1:=by refine GZ (Nat.lt_of_lt_of_le hR1b ?_);rw [Nat.pow_succ];have h8:=DG (Ed b.x);rw [Cz] at h8;omega
   have hRl:=IV (Nat.le_of_lt hRb)
   have hd9:Je ([(dg a.x).getD (j-1) 0]++dg R):=λe he=>(List.mem_append.1 he).elim (λh=>by rw [xz.1 h];omega) (λh=>Ed R e h)
   have hv9:val10 ([(dg a.x).getD (j-1) 0]++dg R)=R1:=by rw [List.singleton_append,val10,Cz];omega
   have hk9:1+(dg R).length=([(dg a.x).getD (j-1) 0]++dg R).length:=by simp [Nat.add_comm]
   obtain ⟨f,hf⟩:∃f,f=R1/10000^k:=⟨_,rfl⟩
   have hfb:=TR hR1b htb
   rw [<-hf] at hfb
   obtain ⟨q,hq⟩:∃q,q=R1/b.x:=⟨_,rfl⟩
   have hq1:q<=9999:=by have:=(Nat.div_lt_iff_lt_mul hb0).2 hR1b;omega
   have hqR:b.x*q<=R1:=by rw [hq];exact Nat.mul_div_le _ _
   have hlow:f/(tp+1)<=q:=by rw [hf,htp,hq];exact Yg hb0
   have hhigh:q<=f/tp:=by rw [hf,htp,hq];exact Vn (by rw [<-htp];exact htp1)
   have hf2:f/(tp+1)<=f:=Nat.div_le_self _ _
   refine yT (k:=8) (u:=(vN (j-1))) O (by show Value.int _ _=Value.int _ _;congr 1;omega) (zJ (q1 (zN (q4 (AJ O (AJ O (st' (v:=(pP (pB a.p) (pO a.p+(j-1)*1))) (AF (j:=j-1) O O a.ok underlying79 sizeOf3 O Z) O (st' (Ab (v:=(vN ((dg a.x).getD (j-1) 0))) (i:=2) O O (a.ok.ne Z) BN (Dz (ds:=dg a.x) (j:=j-1) Z)) O (zn (V:=λb3=>(qz (jk b3) 1 1)) (T:=3) (cs:=[(vN ((dg a.x).getD (j-1) 0))]) (AM O) (BH (cs:=[(vN ((dg a.x).getD (j-1) 0))]) (pv:=[(0,(vN ((dg a.x).getD (j-1) 0)))]) underlying79 sizeOf3 zeroValue3 jY jY O jV) O (leB O) λb3=>yg (z:=1) 1 O Z λho_b3=>AJ O ?_)))))))))
   refine yz (cs2:=dgL (([(dg a.x).getD (j-1) 0])++(dg R))) (news:=dgL (dg R)) Xm O ho_b3 O O (Ma (k:=1) O hok) (by simp [Ce]) (SC _) (KU Z) Z (by rw [FU];rfl) O λp_2 c_2 ho_2=>Bx (args:=[(qz p_2 (1+((dg R).length)) c_2)]) (v:=(qz p_2 ((dg R1).length) c_2)) call213 (λw hw=>(by have h9:=HL p_2 c_2 (([(dg a.x).getD (j-1) 0])++(dg R)) hd9 (by rw [<-hk9];exact ho_2.row) (by simp;omega) w (LK (hw.holds (i:=0) O) ho_2 hk9);rw [hv9,<-hk9] at h9;exact h9)) O (xC 0 (X:=R1) O ho_2 hk9 (by rw [<-hv9];exact GH hd9) O λhok1 hloc1=>asg' O (q3 (sL [0,1,4,5,6,7,9,8,10] O) (AJ O (AJ O (Bx (args:=[(qz p_2 ((dg R1).length) c_2),(vN k)]) (v:=(vN f)) call245 (λw hw=>(by rw [hf];exact Pk (NV.mk p_2 c_2 R1 hok1) k Z (by first|omega|(dsimp only;omega)) (by first|omega|(dsimp only;omega)) w (hw.holds (i:=0) O))) O (asg' O (q6 (sL [0,1,4,5,6,7,9,8,10,11] O) (CE (Dm 10) sr (Bl O ?_)))))))))
   refine Bl O (Ag O (AV (c:=((tp+1:Nat):Int)) O O (AY (a:=tp) (b:=1) Z)) (Ag O (FV (c:=((f/(tp+1):Nat):Int)) O O Z (Fg (a:=f) (b:=tp+1) Z)) (Bl O (Bl O (Ag O (FV (c:=((f/tp:Nat):Int)) O O Z (Fg (a:=f) (b:=tp) Z)) (Ag O (F7 (c:=((min (f/tp) 9999:Nat):Int)) O O (by split<;>omega)) (pS' O (pS' O (zT (zF (sL [0,1,4,5,6,7,9,8,10,12,13] O) (q1 ?_)))))))))))
   refine zN ?_
   refine yM (tg λ(lo:Nat) (hi:Nat)=>lo<=q/\q<=hi/\hi<=9999) (tg λ(lo:Nat) (hi:Nat)=>[(0,(nV a)),(1,(nV b)),(4,jj),(5,jj),(6,(vN k)),(7,(vN tp)),(9,(qz (jk b1) m m)),(8,(vN (j-1))),(10,(qz p_2 ((dg R1).length) c_2)),(12,(vN lo)),(13,(vN hi))]) (tg λ(lo:Nat) (hi:Nat)=>[AC p_2 (dgL (dg R1)),AC p (dgL (dg R)),rowW (jk b1) 3 1 m m (dgL qs),nA a,nA b]) (tg λ(lo:Nat) (hi:Nat)=>hi-lo) (f/(tp+1)) (min (f/tp) 9999) (⟨hlow,Z,Z⟩) (sF O) sr (λlo hi hJ=>?_)
   obtain ⟨hlo,hhi,hh9⟩:=hJ
   refine zf (q4 (AJ O (AJ O (st' (AW (c:=(decide (lo<hi))) O O (B_ (a:=lo) (b:=hi))) O (oNl' (zF (sL [0,1,4,5,6,7,9,8,10,12,13,66] O) (zC ?_)))))))
   refine zO O (λhc2=>?_) (λhc2=>?_)
   ·replace hc2:=xR hc2
    refine zJ (zC (zN (q4 (AJ O (AJ O (st' (AV (c:=((lo+hi:Nat):Int)) O O (AY (a:=lo) (b:=hi) Z)) O (st' (AV (c:=(((lo+hi)+1:Nat):Int)) O O (AY (a:=lo+hi) (b:=1) Z)) O (st' (FV (c:=((((lo+hi)+1)/2:Nat):Int)) O O Z (Fg (a:=(lo+hi)+1) (b:=2) Z)) O (asg' O (q3 (sL [0,1,4,5,6,7,9,8,10,12,13,14] O) (AJ O ?_)))))))))))
    refine AJ O (st' (A6 (c:=((((lo+hi)+1)/2:Nat):Int)) O underlying3 underlying69 (BT Z)) O (yp (args:=[(vK .u64 (((lo+hi)+1)/2))]) call207 (λw hw=>RK (((lo+hi)+1)/2) Z w) Rc O O O λv1 hv1 lv1=>?_))
    have hlv1:(dg v1.x).length<=1:=GZ Z
    refine yp (args:=[(nV b),(nV v1)]) call162 (λw hw=>OB b v1 (by first|omega|(dsimp only;omega)) (by first|omega|(dsimp only;omega)) w (hw.holds (i:=5) O) (hw.holds (i:=0) O)) Rc O O O λv2 hv2 lv2=>?_
    have hlv2:(dg v2.x).length<=(dg b.x).length+1:=by refine GZ ?_;rw [hv2,Nat.pow_succ];have h8:=DG (Ed b.x);rw [Cz] at h8;exact Nat.mul_lt_mul_of_lt_of_le h8 Z Z
    refine AJ O (Bx call211 (λw hw=>N_ v2 (NV.mk p_2 c_2 R1 hok1) (by first|omega|(dsimp only;omega)) (by first|omega|(dsimp only;omega)) w (hw.holds (i:=0) O) (hw.holds (i:=2) O)) O (st' (Ee (c:=(decide ((DO v2.x R1)<=(0:Int)))) O O O) O (oNl' (zF (sL [0,1,4,5,6,7,9,8,10,12,13,14,79] O) (zC ?_)))))
    refine zO O (λhc3=>?_) (λhc3=>?_)
    ·replace hc3:=xR hc3
     have hmq:(lo+hi+1)/2<=q:=by rw [hq];refine (Nat.le_div_iff_mul_le hb0).2 ?_;rw [Nat.mul_comm,<-hv1,<-hv2];exact Nat.le_of_not_lt λh=>by have h8:=Ya h;omega
     exact zQ (AJ O (asg' O (oNl' (zF (sL [0,1,4,5,6,7,9,8,10,12,13,14] O) (zP (z6 (((lo+hi)+1)/2) hi (⟨Z,Z,Z⟩) Z (sF O) (sl (sl sr))))))))
    ·replace hc3:=xQ hc3
     have hmq:q<(lo+hi+1)/2:=by rw [hq];refine (Nat.div_lt_iff_lt_mul hb0).2 ?_;rw [Nat.mul_comm,<-hv1,<-hv2];exact Ve Z
     exact zQ (AJ O (st' (Bc (c:=(((((lo+hi)+1)/2)-1:Nat):Int)) O O (B8 (a:=((lo+hi)+1)/2) (b:=1) Z Z)) O (asg' O (oNl' (zF (sL [0,1,4,5,6,7,9,8,10,12,13,14] O) (zP (z6 lo ((((lo+hi)+1)/2)-1) (⟨Z,Z,Z⟩) Z (sF O) (sl (sl sr)))))))))
   ·replace hc2:=xQ hc2
    have hlq:lo=q:=by omega
    refine zY (zR (zp (zV (q2 (AJ O (AJ O (AJ O (st' (v:=(pP (pB (jk b1)) (pO (jk b1)+(j-1)*1))) (AF (j:=j-1) O O ho_b1.row underlying79 sizeOf3 O Z) O (AQ.storeRow2 (j:=j-1) (v:=(vN lo)) O O ho_b1 (by simp [Ce];omega) Z O sizeOf3 O (SD _ _ _) (oNl' (zF (sL [0,1,4,5,6,7,9,8,10,12,13] O) ?_)))))))))))
    refine zC (zQ (AJ O (AJ O (AJ O (st' (A6 (c:=((lo:Nat):Int)) O underlying3 underlying69 (BT Z)) O (yp (args:=[(vK .u64 lo)]) call207 (λw hw=>RK lo Z w) Rc O O O λv3 hv3 lv3=>?_))))))
    have hlv3:(dg v3.x).length<=1:=GZ Z
    refine yp (args:=[(nV b),(nV v3)]) call162 (λw hw=>OB b v3 (by first|omega|(dsimp only;omega)) (by first|omega|(dsimp only;omega)) w (hw.holds (i:=5) O) (hw.holds (i:=0) O)) Rc O O O λv4 hv4 lv4=>?_
    have hlv4:(dg v4.x).length<=(dg b.x).length+1:=by refine GZ ?_;rw [hv4,Nat.pow_succ];have h8:=DG (Ed b.x);rw [Cz] at h8;exact Nat.mul_lt_mul_of_lt_of_le h8 Z Z
    have hv4R:v4.x<=R1:=by rw [hv4,hv3,hlq];exact hqR
    exact yp (args:=[(qz p_2 ((dg R1).length) c_2),(nV v4)]) call210 (λw hw=>Sm (NV.mk p_2 c_2 R1 hok1) v4 hv4R (by first|omega|(dsimp only;omega)) w (hw.holds (i:=2) O) (hw.holds (i:=0) O)) Rc O O O λv5 hv5 lv5=>asg' O (oNl' (zF (sL [0,1,4,5,6,7,9,8,10,12,13] O) (zP (zC (zQ (AJ O (st' (Bc (c:=(((j-1:Nat):Int)-1)) O O (BZ Z Z)) O (asg' O (oNl' (zF (sL [0,1,4,5,6,7,9,8,10,12,13] O) (yx (j-1) (qs.set (j-1) lo) v5.x v5.p v5.c (⟨Z,SB hdd Z,by simpa using hk,TQ hdd hk hj1 hj hv (by rw [hlq,hq];exact hst.1),by rw [hv5,hv4,hv3,hlq,hst.2,hq];exact Nat.sub_eq_of_eq_add (Nat.mod_add_div _ _).symm,v5.ok,lv5⟩) Z (sF O) (sk (sl (sl (sl (sl sr))))))))))))))))
  ·replace hc1:=xQ hc1
   obtain rfl:j=0:=by omega
   have hfin:val10 qs=a.x/b.x:=by rw [hv];simp
   have hfin2:R=a.x%b.x:=by rw [hR];simp
   refine zY (zR (yX (zV (q2 (AJ O (Bx (args:=[(qz (jk b1) m m)]) (v:=(qz (jk b1) ((dg (val10 qs)).length) m)) call213 (λw hw=>(by have h9:=HL (jk b1) m qs hdd (by rw [<-hk];exact ho_b1.row) Z w (LK (hw.holds (i:=1) O) ho_b1 hk);rw [<-hk] at h9;exact h9)) O (AJ O (asg' O (asg' O (oNl' (zF (sL [0,1,4,5,6,7,9,8,10] O) ?_)))))))))))
   exact zC (zH (BR O (rd_tmp (v:=(qz (jk b1) ((dg (val10 qs)).length) m)) O) (rd_tmp (v:=(qz p ((dg R).length) c)) O) (λw hw=>d8 hw (i:=1) (k:=0) O ho_b1 hk (by rw [<-hfin];exact GH hdd) (by rw [hfin]) (by rw [<-hfin2];rfl) (by rw [<-hfin2];exact hok) hloc (by rw [<-hfin2]))))
theorem Za (a b:NV) (hla:(dg a.x).length<=274877906944) (hlb:(dg b.x).length<=274877906944) (w:World) (ha:Holds w (nA a)) (hb:Holds w (nA b)):Calls prog 208 #[(nV a),(nV b)] w (G0 w [a.p.map (·.block),b.p.map (·.block)] (Nat.gcd a.x b.x)):=by
 refine AR (args:=[(nV a),(nV b)]) (L:=[nA b,nA a]) func208 O O (leB O) (CF O hb (CF O ha (Ae))) (zM (sL [0,1] O) (q4 (asg' O (oNl' (q1 (zN ?_))))))
 refine yM (tg λ(u:NV) (v:NV)=>Nat.gcd u.x v.x=Nat.gcd a.x b.x/\(dg u.x).length<=274877906944/\(dg v.x).length<=274877906944/\EJ w [a.p.map (·.block),b.p.map (·.block)] u.p/\EJ w [a.p.map (·.block),b.p.map (·.block)] v.p) (tg λ(u:NV) (v:NV)=>[(4,jj),(0,(nV u)),(1,(nV v))]) (tg λ(u:NV) (v:NV)=>[nA v,nA u]) (tg λ(u:NV) (v:NV)=>v.x) a b (⟨rfl,hla,hlb,λs e=>.inr (by rw [<-e];exact List.mem_cons_self),λs e=>.inr (by rw [<-e];exact List.mem_cons_of_mem _ List.mem_cons_self)⟩) (sF O) sr (λu v hJ=>?_)
 obtain ⟨hg,hlu,hlv,hu,hv⟩:=hJ
 refine zf (q4 (AJ O (st' (v:=(vN ((dg v.x).length))) (AD O underlying79) O (st' (B2 (c:=(decide (0<((dg v.x).length)))) O O (B_ (a:=0) (b:=(dg v.x).length))) O (oNl' (zF (sL [4,0,1,9] O) (zC ?_)))))))
 refine zO O (λhc0=>?_) (λhc0=>?_)
 ·replace hc0:=xR hc0
  have hv0:0<v.x:=by
     rcases Nat.eq_zero_or_pos v.x with h|h
     ·rw [h] at hc0;exact absurd hc0 jY
     ·exact h
  refine zJ (zC (zN (q4 (AJ O (AJ O (AQ.callNN (args:=[(nV u),(nV v)]) call209 (λw hw=>Sl u v hv0 hlu hlv w (hw.holds (i:=1) O) (hw.holds (i:=0) O)) Rc (f9 (y:=nA u) 1 O O Rc) O O O λq1 r1 hq1 hr1 lq1 lr1=>AJ O (st' (AK (v:=(nV q1)) O O) O (st' (AK (v:=(nV r1)) O O) O (asg' O (asg' O ?_))))))))))
  exact q3 (sL [4,0,1,6] O) (AJ O (asg' O (oNl' (zF (sL [4,0,1,6] O) (zC (zQ (AJ O (asg' O (oNl' (zF (sL [4,0,1] O) (zP (z6 v r1 (⟨by rw [<-hg,hr1,Nat.gcd_comm,<-Nat.gcd_rec,Nat.gcd_comm],hlv,xx (IV (by rw [hr1];exact Nat.le_of_lt (Nat.mod_lt _ hv0))) hlv,hv,lr1.mono (λs hs c e=>hu c (by rw [xz.1 hs] at e;exact e))⟩) (by rw [hr1];exact Nat.mod_lt _ hv0) (sF O) (sl (sk (sk (sl sr))))))))))))))))
 ·replace hc0:=xQ hc0
  have hv0:v.x=0:=by
     rcases Nat.eq_zero_or_pos v.x with h|h
     ·exact h
     ·have:=(Ks h).2;omega
  rw [hv0,Nat.gcd_zero_right] at hg
  exact zY (zR (zp (zV (q2 (AJ O (asg' O (oNl' (zF (sL [4,0,1] O) (zC (zH (ret_one O (rd_tmp (v:=(nV u)) O) (λw hw=>⟨u,hg,rfl,hw.out,hw.holds (i:=1) O,hu⟩))))))))))))
end
section
set_option maxRecDepth 100000
theorem XC (a:NV) (hla:(dg a.x).length<=549755813888) (w:World) (ha:Holds w (nA a)):Calls prog 146 #[(nV a)] w (AX w (Value.string (txB (Lib.decDigits a.x)))):=by
 refine AR (args:=[(nV a)]) (L:=[nA a]) func146 O O (leB O) (CF O ha (Ae)) (zM (sL [0] O) (q4 (asg' O (oNl' (q1 (q4 (AJ O (st' (v:=(vN ((dg a.x).length))) (AD O underlying79) O (st' (A9 (c:=(decide (((dg a.x).length)=0))) O O (MA (a:=(dg a.x).length) (b:=0))) O (oNl' (zF (sL [0,2,9] O) ?_)))))))))))
 refine zC ?_
 refine zO O (λhc0=>?_) (λhc0=>?_)
 ·replace hc0:=xR hc0
  have hx0:a.x=0:=by rcases Nat.eq_zero_or_pos a.x with h|h;exact h;have:=(Ks h).2;omega
  exact q4 (asg' O (oNl' (zC (zH (zI (ret_one O (rd_tmp (v:=(Value.string (ByteArray.mk #[48]))) O) (λw hw=>⟨by rw [hx0,Kr];rfl,hw.out⟩)))))))
 ·replace hc0:=xQ hc0
  have hx0:0<a.x:=by rcases Nat.eq_zero_or_pos a.x with h|h;(exact absurd (by rw [h];rfl) hc0);exact h
  refine zJ (q2 (asg' O (oNl' (q1 (q4 (asg' O (oNl' (zC (zN ?_)))))))))
  refine yM (tg λ(i:Nat) (s:List UInt8)=>i<(dg a.x).length/\s=Cu (4*i) a.x\/i=(dg a.x).length/\s=Lib.decDigits a.x) (tg λ(i:Nat) (s:List UInt8)=>[(0,(nV a)),(2,(Value.string (ByteArray.mk #[]))),(4,(vN i)),(3,(Value.string (txB s)))]) (tg λ(i:Nat) (s:List UInt8)=>[nA a]) (tg λ(i:Nat) (s:List UInt8)=>(dg a.x).length-i) 0 ([]) (.inl ⟨Z,rfl⟩) (sF O) sr (λi s hJ=>?_)
  have hj:=hJ
  refine zf (q4 (AJ O (AJ O (st' (v:=(vN ((dg a.x).length))) (AD O underlying79) O (st' (AW (c:=(decide (i<((dg a.x).length)))) O O (B_ (a:=i) (b:=(dg a.x).length))) O (oNl' (zF (sL [0,2,4,3,13] O) (zC ?_))))))))
  refine zO O (λhc1=>?_) (λhc1=>?_)
  ·replace hc1:=xR hc1
   have hs:s=Cu (4*i) a.x:=(hj.resolve_right Z).2
   have gd:=Gq a.x i
   refine zJ (q1 (zN (q4 (AJ O (AJ O (st' (v:=(pP (pB a.p) (pO a.p+i*1))) (AF (j:=i) O O a.ok underlying79 sizeOf3 O Z) O (st' (Ab (v:=(vN ((dg a.x).getD i 0))) (i:=0) O O (a.ok.ne Z) BN (Dz (ds:=dg a.x) (j:=i) Z)) O (asg' O (q3 (sL [0,2,4,3,5] O) (asg' O (oNl' ?_)))))))))))
   refine zC (zN ?_)
   refine yW (tg λ(d:Nat) (k:Nat) (s2:List UInt8)=>k<=4/\d=(dg a.x).getD i 0/10^k/\s2=Cu (4*i+k) a.x/\(i+1=(dg a.x).length->k=0\/(dg a.x).getD i 0/10^(k-1)≠0)) (tg λ(d:Nat) (k:Nat) (s2:List UInt8)=>[(0,(nV a)),(2,(Value.string (ByteArray.mk #[]))),(4,(vN i)),(5,(vN d)),(6,(vN k)),(3,(Value.string (txB s2)))]) (tg λ(d:Nat) (k:Nat) (s2:List UInt8)=>[nA a]) (tg λ(d:Nat) (k:Nat) (s2:List UInt8)=>4-k) ((dg a.x).getD i 0) 0 s (⟨Z,by simp,by rw [hs];rfl,λ_=>.inl O⟩) (sF O) sr (λd k s2 hJ=>?_)
   obtain ⟨hk4,hd,hs2,hnz⟩:=hJ
   have hdl:d<=(dg a.x).getD i 0:=by rw [hd];exact Nat.div_le_self _ _
   refine zf (q4 (AJ O (st' (AW (c:=(decide (k<4))) O O (B_ (a:=k) (b:=4))) O (AJ O ?_))))
   refine zg (FM:=[(0,(nV a)),(2,(Value.string (ByteArray.mk #[]))),(4,(vN i)),(5,(vN d)),(6,(vN k)),(3,(Value.string (txB s2))),(20,(vN k)),(21,(qa (decide (k<4)))),(22,(qa (decide (k<4)))),(32,(qa ((decide (k<4))&&((decide ((i+1)<((dg a.x).length)))||(decide (0<d))))))]) (LM:=[nA a]) 10 ?_ ?_
   ·rcases xO (decide (k<4)) with hg1|hg1
    ·refine zK (k:=22) (u:=qa true) O (by rw [hg1]) ?_
     have hg1':=xR hg1
     refine EV O (Au (v:=(vN (i+1))) O (AV (c:=((i+1:Nat):Int)) O O (AY (a:=i) (b:=1) Z)) (EV O (Au (v:=(vN ((dg a.x).length))) O (AD O underlying79) (Au (v:=(qa (decide ((i+1)<((dg a.x).length))))) O (AW (c:=(decide ((i+1)<((dg a.x).length)))) O O (B_ (a:=i+1) (b:=(dg a.x).length))) (EV O ?_)))))
     refine zg (FM:=[(0,(nV a)),(2,(Value.string (ByteArray.mk #[]))),(4,(vN i)),(5,(vN d)),(6,(vN k)),(3,(Value.string (txB s2))),(20,(vN k)),(21,(qa (decide (k<4)))),(22,(qa true)),(23,(vN i)),(24,(vN (i+1))),(25,(nV a)),(26,(vN ((dg a.x).length))),(27,(qa (decide ((i+1)<((dg a.x).length))))),(28,(qa (decide ((i+1)<((dg a.x).length))))),(31,(qa ((decide ((i+1)<((dg a.x).length)))||(decide (0<d)))))]) (LM:=[nA a]) 3 ?_ ?_
     ·rcases xO (decide ((i+1)<((dg a.x).length))) with hg2|hg2
      ·refine zK (k:=28) (u:=qa true) O (by rw [hg2]) ?_
       have hg2':=xR hg2
       exact Aw O (Aw O (Au (v:=(qa true)) O (ex_pick_true O O) (oNl' (zS EW (xP _)))))
      ·refine zK (k:=28) (u:=qa false) O (by rw [hg2]) ?_
       have hg2':=xQ hg2
       exact EV O (Au (v:=(qa (decide (0<d)))) O (B2 (c:=(decide (0<d))) O O (B_ (a:=0) (b:=d))) (Au (v:=(qa (decide (0<d)))) O (AI O O) (oNl' (zS EW (xP _)))))
     exact st' (v:=(qa ((decide ((i+1)<((dg a.x).length)))||(decide (0<d))))) (ex_pick_true O O) O (oNl' (zS Bi (xP _)))
    ·refine zK (k:=22) (u:=qa false) O (by rw [hg1]) ?_
     have hg1':=xQ hg1
     exact Aw O (Aw O (Aw O (Aw O (Aw O (Aw O (yS (Dx O O O) O (leB O) (yS (Dx O O O) O (leB O) (Aw O (st' (v:=(qa false)) (AI O O) O (oNl' (zS Bi (xP _))))))))))))
   refine oNl' (zF (sL [0,2,4,5,6,3,32] O) (zC ?_))
   refine zO O (λhc2=>?_) (λhc2=>?_)
   ·simp only [jK] at hc2
    refine zJ (q1 (zN (q4 (AJ O (st' (Dn (c:=((d%10:Nat):Int)) O O Z (RL (a:=d) (b:=10))) O (st' (AV (c:=((48+(d%10):Nat):Int)) O O (AY (a:=48) (b:=d%10) Z)) O (st' (A6 (c:=((48+(d%10):Nat):Int)) O underlying3 underlying5 (Ot Z)) O (st' (v:=(Value.string (txB [UInt8.ofNat (48+d%10)]))) (O9 (a:=48+d%10) O underlying5 underlying9 Z) O (AJ O (st' (v:=(Value.string (txB (Cu (4*i+(k+1)) a.x)))) (Bw (r:=(txB (Cu (4*i+(k+1)) a.x))) O O (by rw [CG,CG,hs2,Pe];simp;omega) (by rw [hs2];exact W1 hc2.1 hd)) O (asg' O ?_)))))))))))
    refine oNl' (zF (sL [0,2,4,5,6,3] O) (zC (zQ (AJ O (st' (FV (c:=((d/10:Nat):Int)) O O Z (Fg (a:=d) (b:=10) Z)) O (asg' O (oNl' (zF (sL [0,2,4,5,6,3] O) (zP (zC (zQ ?_)))))))))))
    exact AJ O (st' (AV (c:=((k+1:Nat):Int)) O O (AY (a:=k) (b:=1) Z)) O (asg' O (oNl' (zF (sL [0,2,4,5,6,3] O) (yN (d/10) (k+1) (Cu (4*i+(k+1)) a.x) (⟨Z,by rw [hd,Nat.div_div_eq_div_mul,<-Nat.pow_succ],rfl,λh=>.inr (by rw [Nat.add_sub_cancel,<-hd];omega)⟩) Z (sF O) sr)))))
   ·simp only [jK] at hc2
    have hout:i+1<(dg a.x).length/\s2=Cu (4*(i+1)) a.x\/i+1=(dg a.x).length/\s2=Lib.decDigits a.x:=by
        rcases Nat.lt_or_ge (i+1) (dg a.x).length with h|h
        ·exact .inl ⟨h,by rw [hs2,show k=4 by omega];rfl⟩
        ·exact .inr ⟨Z,by rw [hs2];exact Xp hx0 Z hk4 hd (hnz Z) Z⟩
    exact zY (zR (yF (zV (zP (zC (zQ (AJ O (st' (AV (c:=((i+1:Nat):Int)) O O (AY (a:=i) (b:=1) Z)) O (asg' O (oNl' (zF (sL [0,2,4,5,6,3] O) (z6 (i+1) s2 (hout) Z (sF O) sr))))))))))))
  ·replace hc1:=xQ hc1
   have hs:s=Lib.decDigits a.x:=(hj.resolve_left Z).2
   exact zY (zR (zp (zV (q2 (AJ O (asg' O (oNl' (zF (sL [0,2,4,3] O) (zC (zH (ret_one O (rd_tmp (v:=(Value.string (txB s))) O) (λw hw=>⟨by rw [hs],hw.out⟩))))))))))))
end
section
structure dM (x y:Nat) where
  q:NX x
  r:NX y
instance {x y:Nat}:Cl (dM x y):=⟨λa=>.tuple #[CL a.q,CL a.r],λa=>[BM a.q,BM a.r],λa y hy=>RO rfl rfl hy⟩
section
variable {S:Nat->Prop} {w:World} {x y:Nat}
theorem eA {a:dM x y} (h:Ro S w a):Ro S w a.q:=λz hz=>h z (by rcases xz.1 hz with rfl;exact List.mem_cons_self)
theorem gN {W:World} {src:List (Option Nat)} {e:Ending} (hs:∀s∈src,∀b,s=some b->S b) (h:G0 W src x e w):Ai (NX x) S W e w:=by
  obtain ⟨v,rfl,rfl,hb,hh,hl⟩:=h
  refine ⟨⟨v.p,v.c,v.ok⟩,rfl,hb,λy hy=>?_⟩
  rcases xz.1 hy with rfl
  exact ⟨hh,λb e=>(hl b e).imp_right λh=>hs _ h b O⟩
theorem fT {a:NX x} (h:Ro S w a) {b:Nat} (e:a.p.map (·.block)=some b):S b:=(h _ List.mem_cons_self).2 b e
theorem SG {x:Nat} (h:nw x<=67108864):(dg x).length<=274877906944:=by have:=aL x;omega
theorem G1 {x:Nat} (h:nw x<=67108864):(dg x).length<=549755813888:=by have:=aL x;omega
theorem Rs (x:Nat) (hx:x<18446744073709551616) (w:World) {S:Nat->Prop}:Calls prog 207 #[(vK .u64 x)] w (Ai (NX x) S w):=(RK x hx w).mono λe w' h=>gN (λs hs=>by cases hs) h
theorem S1 (a:NX x) (b:NX y) (hx:nw x<=67108864) (hy:nw y<=67108864) (w:World) (ha:Ro S w a) (hb:Ro S w b):Calls prog 198 #[CL a,CL b] w (Ai (NX (x+y)) S w) :=
  (ZZ a.nv b.nv (G1 hx) (G1 hy) w (UK ha) (UK hb)).mono λe w' h=>gN (λs hs=>by cases hs) h
theorem OU (a:NX x) (b:NX y) (hxy:y<=x) (hx:nw x<=67108864) (w:World) (ha:Ro S w a) (hb:Ro S w b):Calls prog 210 #[CL a,CL b] w (Ai (NX (x-y)) S w) :=
  (Sm a.nv b.nv hxy (G1 hx) w (UK ha) (UK hb)).mono λe w' h=>gN (λs hs=>by cases hs) h
theorem OT (a:NX x) (b:NX y) (hx:nw x<=67108864) (hy:nw y<=67108864) (w:World) (ha:Ro S w a) (hb:Ro S w b):Calls prog 162 #[CL a,CL b] w (Ai (NX (x*y)) S w) :=
  (OB a.nv b.nv (G1 hx) (G1 hy) w (UK ha) (UK hb)).mono λe w' h=>gN (λs hs=>by cases hs) h
theorem Z5 (a:NX x) (b:NX y) (hx:nw x<=67108864) (hy:nw y<=67108864) (w:World) (ha:Ro S w a) (hb:Ro S w b):Calls prog 211 #[CL a,CL b] w (AX w (vI (DO x y))) :=
  N_ a.nv b.nv (G1 hx) (G1 hy) w (UK ha) (UK hb)
theorem Z6 (a:NX x) (b:NX y) (hx:nw x<=67108864) (hy:nw y<=67108864) (w:World) (ha:Ro S w a) (hb:Ro S w b):Calls prog 208 #[CL a,CL b] w (Ai (NX (Nat.gcd x y)) S w) :=
  (Za a.nv b.nv (SG hx) (SG hy) w (UK ha) (UK hb)).mono λe w' h=>gN (λs hs c e=>by
    rcases xy.1 hs with rfl|hs
    · exact fT ha e
    · rcases xz.1 hs with rfl;exact fT hb e) h
theorem S2 (a:NX x) (b:NX y) (hy0:0<y) (hx:nw x<=67108864) (hy:nw y<=67108864) (w:World) (ha:Ro S w a) (hb:Ro S w b):Calls prog 209 #[CL a,CL b] w (Ai (dM (x/y) (x%y)) S w) :=
  (Sl a.nv b.nv hy0 (SG hx) (SG hy) w (UK ha) (UK hb)).mono λe w' h=>by
    obtain ⟨u,v,hu,hv,rfl,hB,hhu,hhv,lu,lv⟩:=h
    obtain ⟨up,uc,ux,uok⟩:=u
    obtain ⟨vp,vc,vx,vok⟩:=v
    dsimp only at hu hv
    subst hu;subst hv
    refine ⟨⟨⟨up,uc,uok⟩,⟨vp,vc,vok⟩⟩,rfl,hB,λz hz=>?_⟩
    rcases xy.1 hz with rfl|hz
    · exact ⟨hhu,λb e=>(lu b e).elim .inl λh=>by cases h⟩
    · rcases xz.1 hz with rfl
      exact ⟨hhv,λb e=>(lv b e).imp_right λh=>by
        have:=xz.1 h
        exact fT ha this.symm⟩
theorem L_ (a:NX x) (hx:nw x<=67108864) (w:World) (ha:Ro S w a):Calls prog 146 #[CL a] w (AX w (Value.string (txB (Lib.decDigits x)))):=XC a.nv (G1 hx) w (UK ha)
end
section
variable {P:Program} {ops:Array Oper} {rest:List Oper} {Q:Exit->Act->World->Prop} {n d:Nat} {F:List (Nat×Value)} {w0:BA} {S:Nat->Prop} {L:List As} {t:TypeId} {p:String} {af:Array Edge} {y:Operand} {f:FuncId} {xs:List Operand} {args:List Value} {ts:Array TypeId}
theorem cD {u v:Nat} (hc:∀args w,(callFunc f args).run P w=.ok (.enter f args) w) (h:∀w,BE w0 w L->Calls P f args.toArray w (Ai (dM u v) (SL w0 S L) w))
    (hf:evF F y=some (.func (.func f) #[] #[])) (hargs:xs.map (evF F)=args.map some) (hd:Nat.ble (d+1) n=true) (next:∀a:dM u v,At w0 S a->AQ P ops rest Q n ((d,.tuple #[CL a.q,CL a.r])::F) w0 (BM a.q::BM a.r::L)) :
    AQ P ops (⟨some d,.call { callee:=.value y,args:=xs.toArray,argTypes:=ts },t,p,af,none⟩::rest) Q n F w0 L:=yE hc h hf hargs hd next
end
end
theorem KG:∀{k x:Nat},x<10^(k+1)->(Lib.decDigits x).length<=k+1
  | 0,x,h=>by rw [Lib.decDigits,dif_pos Z];simp
  | k+1,x,h=>by
    rw [Lib.decDigits]
    split
    · simp
    · have:=KG (k:=k) (x:=x/10) (by rw [Nat.pow_succ] at h;omega)
      rw [xw,List.length_singleton];omega
theorem JA (n:Nat):(Lib.decDigits n).length<=10*nw n+1 :=
  KG (Nat.lt_of_lt_of_le (Nat.lt_of_lt_of_le (Bp n) (by rw [Nat.pow_mul];exact Nat.pow_le_pow_left jY _)) (Nat.pow_le_pow_right Z (Nat.le_succ _)))
theorem No (x:Nat):0<(dg x).length↔x≠0:=by
  constructor
  · intro h e;rw [e,Fr] at h;simp at h
  · intro h;exact (Ks Z).2
theorem bg (neg:Bool) (x:Nat):decide (EG neg x<0)=(neg&&decide (0<(dg x).length)):=by
  have h:=No x
  cases neg
  · simp [EG]
  · by_cases h0:x=0
    · subst h0;simp [EG,Fr]
    · have:0<(dg x).length:=h.2 h0
      simp [EG,this];omega
def bj (neg:Bool) {x:Nat} (n:NX x):ZX (EG neg x):=⟨n.cast (Ax neg x).symm⟩
theorem cz (neg:Bool) {x:Nat} (n:NX x):DT (bj neg n)=[.bool (neg&&decide (0<(dg x).length)),CL n]:=by
  unfold DT bj CL
  rw [bg]
  simp only [Ax]
theorem PU {x:Nat} (h:(dg x).length=0):x=0:=Classical.byContradiction λe=>by have:=(No x).2 e;omega
theorem Ie {x:Nat} (h:¬(dg x).length=0):x≠0:=(No x).1 Z
def txI (z:Int):List UInt8:=if z<0 then 45::Lib.decDigits z.natAbs else Lib.decDigits z.natAbs
end Go.Proofs.YtpolhpjiahbidaaGreatDoor
