import Derived.Test.YtcpkbjjmcleplaaGreatDoorPart17
import Derived.Test.YtcpkbjjmcleplaaGreatDoorPart31
namespace Go.Proofs.YtcpkbjjmcleplaaGreatDoor
open Go Go.RowKit Go.Proofs.Tryz
open Go.Value renaming slice→qz,bool→qa
set_option linter.unusedVariables false
set_option linter.unusedSimpArgs false
section
set_option maxRecDepth 100000
theorem X8:ElemT prog 80 3 1 8:=⟨underlying80,Cx jV⟩
theorem Hv (p:Option Addr) (c:Nat) (ds:List Nat) (hd:KC ds) (ho:BG p ds.length c) (hl:ds.length<=1099511627776) (w:World) (h:Holds w (AI p (dgL ds))):Calls prog 194 #[(qz p ds.length c)] w (Ac w (qz p ((dg (val10 ds)).length) c)):=by
 refine AZ (args:=[(qz p ds.length c)]) (L:=[AI p (dgL ds)]) func194 O O (leB O) (CV O h (Ao)) (zI (sL [0] O) (q4 (asg' O (oNl' (q1 (zM ?_))))))
 refine yW (tg λ(k:Nat)=>k<=ds.length/\val10 (ds.take k)=val10 ds) (tg λ(k:Nat)=>[(2,jj),(0,(qz p k c))]) (tg λ(k:Nat)=>[AI p (dgL ds)]) (tg λ(k:Nat)=>k) ds.length (⟨Nat.le_refl _,by rw [List.take_length]⟩) (sF O) sr (λk hJ=>?_)
 obtain ⟨hk,hv⟩:=hJ
 have hok:BG p k c:=⟨λe=>⟨by have:=(ho.nil e).1;omega,(ho.nil e).2⟩,ho.spot,xK hk ho.le⟩
 have hkc:=hok.le
 refine zS (q4 (AK O (st' (v:=(vN k)) (AD O underlying80) O (st' (CC (c:=(decide (0<k))) O O (DE (a:=0) (b:=k))) O (AK O ?_)))))
 refine zg (FM:=[(2,jj),(0,(qz p k c)),(3,(qz p k c)),(4,(vN k)),(5,(qa (decide (0<k)))),(6,(qa (decide (0<k)))),(14,(qa ((decide (0<k))&&(decide ((ds.getD (k-1) 0)=0)))))]) (LM:=[AI p (dgL ds)]) 8 ?_ ?_
 ·rcases xO (decide (0<k)) with hg1|hg1
  ·refine zN (k:=6) (u:=qa true) O (by rw [hg1]) ?_
   have hg1':=xR hg1
   exact FR O (FR O (BV (v:=(vN k)) O (AD O underlying80) (BV (v:=(vN (k-1))) O (BY (c:=((k-1:Nat):Int)) O O (CY (a:=k) (b:=1) Z Z)) (BV (v:=(pP (pB p) (pO p+(k-1)*1))) O (AQ (j:=k-1) O O hok underlying80 sizeOf3 O Z) (BV (v:=(vN (ds.getD (k-1) 0))) O (Ad (v:=(vN (ds.getD (k-1) 0))) (i:=0) O O (hok.ne Z) Dc (Ea (ds:=ds) (j:=k-1) Z)) (BV (v:=(qa (decide ((ds.getD (k-1) 0)=0)))) O (Au (c:=(decide ((ds.getD (k-1) 0)=0))) O O (K0 (a:=ds.getD (k-1) 0) (b:=0))) (st' (v:=(qa (decide ((ds.getD (k-1) 0)=0)))) (ex_pick_true O O) O (oNl' (zT CT (xP _))))))))))
  ·refine zN (k:=6) (u:=qa false) O (by rw [hg1]) ?_
   have hg1':=xQ hg1
   exact BP O (BP O (BP O (BP O (BP O (BP O (BP O (st' (v:=(qa false)) (AN O O) O (oNl' (zT CT (xP _))))))))))
 refine oNl' (zB (sL [2,0,14] O) (zA ?_))
 refine zK O (λhc0=>?_) (λhc0=>?_)
 ·simp only [jK] at hc0
  refine zG (zA (zM (zH (AK O (AK O (st' (v:=(vN k)) (AD O underlying80) O (st' (BY (c:=((k-1:Nat):Int)) O O (CY (a:=k) (b:=1) Z Z)) O (st' (v:=(qz p (k-1) c)) (FQ (m:=k-1) O O underlying80 sizeOf3 Z) O (asg' O (oNl' (zB (sL [2,0] O) ?_)))))))))))
  exact zJ (yJ (k-1) (⟨Z,by rw [NO Z hc0.2,Nat.sub_add_cancel hc0.1,hv]⟩) Z (sF O) sr)
 ·simp only [jK] at hc0
  have htl:=YB hd hk hv (hc0.imp (λh=>by omega) id)
  exact zW (zO (zy (zR (q2 (AK O (asg' O (oNl' (zB (sL [2,0] O) (zA (zF (ret_one O (rd_tmp (v:=(qz p k c)) O) (λw hw=>⟨by rw [<-htl],hw.out⟩))))))))))))
theorem Ow (a:NV) (i:Nat) (hi:i<=1099511627776) (w:World) (ha:Holds w (nA a)):Calls prog 193 #[(nV a),(vN i)] w (Ac w (vN ((dg a.x).getD i 0))):=by
 refine AZ (args:=[(nV a),(vN i)]) (L:=[nA a]) func193 O O (leB O) (CV O ha (Ao)) (zI (sL [0,1] O) (q4 (asg' O (oNl' (q1 (q4 (AK O (AK O (st' (v:=(vN ((dg a.x).length))) (AD O underlying80) O (st' (Aa (c:=(decide (i<((dg a.x).length)))) O O (DE (a:=i) (b:=(dg a.x).length))) O (oNl' ?_)))))))))))
 refine zB (sL [0,1,4,8] O) (zA ?_)
 refine zK O (λhc0=>?_) (λhc0=>?_)
 ·replace hc0:=xR hc0
  exact q4 (AK O (AK O (st' (v:=(pP (pB a.p) (pO a.p+i*1))) (AQ (j:=i) O O a.ok underlying80 sizeOf3 O Z) O (st' (Ad (v:=(vN ((dg a.x).getD i 0))) (i:=0) O O (a.ok.ne Z) Dc (Ea (ds:=dg a.x) (j:=i) Z)) O (asg' O (oNl' (zB (sL [0,1,4] O) (zA (zF (zL (ret_one O (rd_tmp (v:=(vN ((dg a.x).getD i 0))) O) (λw hw=>⟨rfl,hw.out⟩))))))))))))
 ·replace hc0:=xQ hc0
  have hg:=Eg hc0
  exact zG (q2 (asg' O (oNl' (zA (zF (ret_one O (rd_tmp (v:=(vI 0)) O) (λw hw=>⟨by rw [hg];rfl,hw.out⟩)))))))
theorem Rz (x:Nat) (hx:x<18446744073709551616) (w:World)  :Calls prog 188 #[(vK .u64 x)] w (Hd w [] x):=by
 have hlen:(dg x).length<=5:=G3 Z
 refine AV (args:=[(vK .u64 x)]) func188 O O (leB O) (zI (sL [0] O) (q4 (asg' O (oNl' (q2 (asg' O (zm 3 1 (oNl' (q1 (zM ?_))))))))))
 refine yq (tg λ(y:Nat) (p:Option Addr) (c:Nat) (k:Nat) (ds:List Nat)=>dg x=ds++dg y/\k=ds.length/\OwnOk p k c/\y<=x) (tg λ(y:Nat) (p:Option Addr) (c:Nat) (k:Nat) (ds:List Nat)=>[(2,jj),(0,(vK .u64 y)),(3,(qz p k c))]) (tg λ(y:Nat) (p:Option Addr) (c:Nat) (k:Nat) (ds:List Nat)=>[rowW p 3 1 k c (dgL ds)]) (tg λ(y:Nat) (p:Option Addr) (c:Nat) (k:Nat) (ds:List Nat)=>y) x none 0 0 ([]) (⟨rfl,rfl,OwnOk.none,Nat.le_refl _⟩) (sF O) sr (λy p c k ds hJ=>?_)
 obtain ⟨hd,hk,ho,hy⟩:=hJ
 have hkl:k<=5:=by have:=congrArg List.length hd;rw [xJ] at this;omega
 refine zS (q4 (AK O (st' (CC (c:=(decide (0<y))) O O (DE (a:=0) (b:=y))) O (oNl' (zB (sL [2,0,3,5] O) (zA ?_))))))
 refine zK O (λhc0=>?_) (λhc0=>?_)
 ·replace hc0:=xR hc0
  refine zG (zA (zM (q4 (AK O (AK O (st' (Cz (c:=((y%10000:Nat):Int)) O O Z (HD (a:=y) (b:=10000))) O (st' (Al (c:=((y%10000:Nat):Int)) O underlying52 underlying3 (B6 Z)) O (zZ (V:=λb1=>(qz (jk b1) 1 1)) (T:=3) (cs:=[(vN (y%10000))]) (AG O) (Ai (cs:=[(vN (y%10000))]) (pv:=[(0,(vN (y%10000)))]) underlying80 sizeOf3 zeroValue3 jY jY O jV) O (leB O) λb1=>yE (j:=0) (cs2:=dgL (ds++[y%10000])) X8 O ho (by simp [Cw];omega) O O O O jY (GC Z) Z (by rw [F1];rfl) O λp_1 c_1 ho_1 hne_1=>asg' O (oNl' ?_)))))))))
  exact zB (sL [2,0,3] O) (zA (zH (AK O (st' (Ec (c:=((y/10000:Nat):Int)) O O Z (JR (a:=y) (b:=10000) Z)) O (asg' O (oNl' (zB (sL [2,0,3] O) (zJ (yg (y/10000) p_1 c_1 (k+1) (ds++[y%10000]) (⟨by rw [hd,GO Z,xC];rfl,by simp [hk],ho_1,Z⟩) Z (sF O) (sl sr))))))))))
 ·replace hc0:=xQ hc0
  refine zW (zO (yO (zR (q2 (AK O (asg' O (oNl' (zB (sL [2,0,3] O) (zA (zF ?_))))))))))
  obtain rfl:y=0:=by omega
  rw [GH,List.append_nil] at hd
  exact ret_one O (rd_tmp (v:=(qz p k c)) O) (λw hw=>XZ hw (i:=0) O ho hk (by rw [hd,List.take_length]) (by rw [hd,<-hk]))
end
section
set_option maxRecDepth 100000
theorem aJ (a b:NV) (hla:(dg a.x).length<=549755813888) (hlb:(dg b.x).length<=549755813888) (w:World) (ha:Holds w (nA a)) (hb:Holds w (nA b)):Calls prog 164 #[(nV a),(nV b)] w (Hd w [] (a.x+b.x)):=by
 refine AZ (args:=[(nV a),(nV b)]) (L:=[nA a,nA b]) func164 O O (leB O) (CV O ha (CV O hb (Ao))) (zI (sL [0,1] O) (q4 (asg' O (oNl' (q2 (asg' O (zm 3 1 (oNl' (q2 (asg' O (oNl' ?_)))))))))))
 refine q1 (q4 (asg' O (oNl' (zA (zM ?_)))))
 refine yq (tg λ(i:Nat) (cy:Nat) (p:Option Addr) (c:Nat) (ds:List Nat)=>KC ds/\i=ds.length/\OwnOk p i c/\cy<=1/\val10 ds+10000^i*cy=val10 ((dg a.x).take i)+val10 ((dg b.x).take i)/\(i<=max (dg a.x).length (dg b.x).length\/i<=max (dg a.x).length (dg b.x).length+1/\cy=0)) (tg λ(i:Nat) (cy:Nat) (p:Option Addr) (c:Nat) (ds:List Nat)=>[(0,(nV a)),(1,(nV b)),(4,jj),(6,(vN cy)),(7,(vN i)),(5,(qz p i c))]) (tg λ(i:Nat) (cy:Nat) (p:Option Addr) (c:Nat) (ds:List Nat)=>[rowW p 3 1 i c (dgL ds),nA a,nA b]) (tg λ(i:Nat) (cy:Nat) (p:Option Addr) (c:Nat) (ds:List Nat)=>max (dg a.x).length (dg b.x).length+2-i) 0 0 none 0 ([]) (⟨Si,rfl,OwnOk.none,Z,rfl,.inl Z⟩) (sF O) sr (λi cy p c ds hJ=>?_)
 obtain ⟨hdd,hk,ho,hcy,hv,hm⟩:=hJ
 have ga:=HP a.x i
 have gb:=HP b.x i
 refine zS (q4 (AK O (AK O (st' (v:=(vN ((dg a.x).length))) (AD O underlying80) O (st' (Aa (c:=(decide (i<((dg a.x).length)))) O O (DE (a:=i) (b:=(dg a.x).length))) O (AK O ?_))))))
 refine zg (FM:=[(0,(nV a)),(1,(nV b)),(4,jj),(6,(vN cy)),(7,(vN i)),(5,(qz p i c)),(9,(vN i)),(10,(nV a)),(11,(vN ((dg a.x).length))),(12,(qa (decide (i<((dg a.x).length))))),(13,(qa (decide (i<((dg a.x).length))))),(18,(qa ((decide (i<((dg a.x).length)))||(decide (i<((dg b.x).length))))))]) (LM:=[rowW p 3 1 i c (dgL ds),nA a,nA b]) 5 ?_ ?_
 ·rcases xO (decide (i<((dg a.x).length))) with hg1|hg1
  ·refine zN (k:=13) (u:=qa true) O (by rw [hg1]) ?_
   have hg1':=xR hg1
   exact BP O (BP O (BP O (BP O (st' (v:=(qa true)) (ex_pick_true O O) O (oNl' (zT CT (xP _)))))))
  ·refine zN (k:=13) (u:=qa false) O (by rw [hg1]) ?_
   have hg1':=xQ hg1
   exact FR O (FR O (BV (v:=(vN ((dg b.x).length))) O (AD O underlying80) (BV (v:=(qa (decide (i<((dg b.x).length))))) O (Aa (c:=(decide (i<((dg b.x).length)))) O O (DE (a:=i) (b:=(dg b.x).length))) (st' (v:=(qa (decide (i<((dg b.x).length))))) (AN O O) O (oNl' (zT CT (xP _)))))))
 refine AK O ?_
 refine zg (FM:=[(0,(nV a)),(1,(nV b)),(4,jj),(6,(vN cy)),(7,(vN i)),(5,(qz p i c)),(9,(vN i)),(10,(nV a)),(11,(vN ((dg a.x).length))),(12,(qa (decide (i<((dg a.x).length))))),(13,(qa (decide (i<((dg a.x).length))))),(18,(qa ((decide (i<((dg a.x).length)))||(decide (i<((dg b.x).length)))))),(19,(qa ((decide (i<((dg a.x).length)))||(decide (i<((dg b.x).length)))))),(22,(qa (((decide (i<((dg a.x).length)))||(decide (i<((dg b.x).length))))||(decide (0<cy)))))]) (LM:=[rowW p 3 1 i c (dgL ds),nA a,nA b]) 3 ?_ ?_
 ·rcases xO ((decide (i<((dg a.x).length)))||(decide (i<((dg b.x).length)))) with hg2|hg2
  ·refine zN (k:=19) (u:=qa true) O (by rw [hg2]) ?_
   have hg2':=hg2
   simp only [jK] at hg2'
   exact BP O (BP O (st' (v:=(qa true)) (ex_pick_true O O) O (oNl' (zT IQ (xP _)))))
  ·refine zN (k:=19) (u:=qa false) O (by rw [hg2]) ?_
   have hg2':=hg2
   simp only [jK] at hg2'
   exact FR O (BV (v:=(qa (decide (0<cy)))) O (CC (c:=(decide (0<cy))) O O (DE (a:=0) (b:=cy))) (st' (v:=(qa (decide (0<cy)))) (AN O O) O (oNl' (zT IQ (xP _)))))
 refine oNl' (zB (sL [0,1,4,6,7,5,22] O) (zA ?_))
 refine zK O (λhc0=>?_) (λhc0=>?_)
 ·simp only [jK] at hc0
  refine zG (q1 (zM (q4 (AK O (AK O ?_)))))
  have hz1:=HP a.x i
  refine CQ call193 (λw hw=>Ow a i Z w (hw.holds (i:=1) O)) O (AK O (AK O ?_))
  have hz2:=HP b.x i
  refine CQ call193 (λw hw=>Ow b i Z w (hw.holds (i:=2) O)) O (st' (AX (c:=((((dg a.x).getD i 0)+((dg b.x).getD i 0):Nat):Int)) O O (AU (a:=(dg a.x).getD i 0) (b:=(dg b.x).getD i 0) Z)) O (AK O (st' (AX (c:=(((((dg a.x).getD i 0)+((dg b.x).getD i 0))+cy:Nat):Int)) O O (AU (a:=((dg a.x).getD i 0)+((dg b.x).getD i 0)) (b:=cy) Z)) O (asg' O (q3 (sL [0,1,4,6,7,5,8] O) (AK O (AK O (st' (Cz (c:=((((((dg a.x).getD i 0)+((dg b.x).getD i 0))+cy)%10000:Nat):Int)) O O Z (HD (a:=(((dg a.x).getD i 0)+((dg b.x).getD i 0))+cy) (b:=10000))) O (zZ (V:=λb1=>(qz (jk b1) 1 1)) (T:=3) (cs:=[(vN (((((dg a.x).getD i 0)+((dg b.x).getD i 0))+cy)%10000))]) (AG O) (Ai (cs:=[(vN (((((dg a.x).getD i 0)+((dg b.x).getD i 0))+cy)%10000))]) (pv:=[(0,(vN (((((dg a.x).getD i 0)+((dg b.x).getD i 0))+cy)%10000)))]) underlying80 sizeOf3 zeroValue3 jY jY O jV) O (leB O) λb1=>yE (j:=0) (cs2:=dgL (ds++[((((dg a.x).getD i 0)+((dg b.x).getD i 0))+cy)%10000])) X8 O ho (by simp [Cw];omega) O O O O jY (GC Z) Z (by rw [F1];rfl) O λp_1 c_1 ho_1 hne_1=>asg' O ?_)))))))))
  refine oNl' (zB (sL [0,1,4,6,7,5,8] O) (zA (zH (AK O (st' (Ec (c:=((((((dg a.x).getD i 0)+((dg b.x).getD i 0))+cy)/10000:Nat):Int)) O O Z (FW (a:=(((dg a.x).getD i 0)+((dg b.x).getD i 0))+cy) (b:=10000) Z)) O (asg' O (oNl' (zB (sL [0,1,4,6,7,5,8] O) (zJ (zA (zH ?_)))))))))))
  refine AK O (st' (AX (c:=((i+1:Nat):Int)) O O (AU (a:=i) (b:=1) Z)) O (asg' O (oNl' (zB (sL [0,1,4,6,7,5,8] O) ?_))))
  have hnx:i+1<=max (dg a.x).length (dg b.x).length\/i+1<=max (dg a.x).length (dg b.x).length+1/\((dg a.x).getD i 0+(dg b.x).getD i 0+cy)/10000=0:=by
            by_cases hi:i<max (dg a.x).length (dg b.x).length
            ·exact .inl Z
            ·refine .inr ⟨Z,?_⟩
             rw [Eg (show ¬i<(dg a.x).length by omega),Eg (show ¬i<(dg b.x).length by omega)]
             omega
  exact yg (i+1) (((dg a.x).getD i 0+(dg b.x).getD i 0+cy)/10000) p_1 c_1 (ds++[((dg a.x).getD i 0+(dg b.x).getD i 0+cy)%10000]) (⟨Po hdd Z,by simp [hk],ho_1,Z,by rw [CJ,CJ];exact YH hk hv O,hnx⟩) Z (sF O) (sl sr)
 ·simp only [jK] at hc0
  have hfin:val10 ds=a.x+b.x:=by rw [Dd Z,Dd Z,DI,DI,show cy=0 by omega] at hv;simpa using hv
  exact zW (zO (yO (zR (q2 (AK O (CQ (args:=[(qz p i c)]) (v:=(qz p ((dg (val10 ds)).length) c)) call194 (λw hw=>(by have h9:=Hv p c ds hdd (by rw [<-hk];exact ho.row) Z w (Lq (hw.holds (i:=0) O) ho hk);rw [<-hk] at h9;exact h9)) O (asg' O (oNl' (zB (sL [0,1,4,6,7,5] O) (zA (zF (ret_one O (rd_tmp (v:=(qz p ((dg (val10 ds)).length) c)) O) (λw hw=>XZ hw (i:=0) O ho hk (by rw [<-hfin];exact GZ hdd) (by rw [hfin]))))))))))))))
theorem TJ (a b:NV) (hab:b.x<=a.x) (hla:(dg a.x).length<=549755813888) (w:World) (ha:Holds w (nA a)) (hb:Holds w (nA b)):Calls prog 191 #[(nV a),(nV b)] w (Hd w [] (a.x-b.x)):=by
 have hlb:=I1 hab
 refine AZ (args:=[(nV a),(nV b)]) (L:=[nA a,nA b]) func191 O O (leB O) (CV O ha (CV O hb (Ao))) (zI (sL [0,1] O) (q4 (asg' O (oNl' (q2 (asg' O (zm 3 1 (oNl' (q2 (asg' O (oNl' ?_)))))))))))
 refine q1 (q4 (asg' O (oNl' (zA (zM ?_)))))
 refine yq (tg λ(i:Nat) (ld:Nat) (p:Option Addr) (c:Nat) (ds:List Nat)=>KC ds/\i=ds.length/\OwnOk p i c/\ld<=1/\val10 ds+val10 ((dg b.x).take i)=val10 ((dg a.x).take i)+10000^i*ld/\i<=(dg a.x).length) (tg λ(i:Nat) (ld:Nat) (p:Option Addr) (c:Nat) (ds:List Nat)=>[(0,(nV a)),(1,(nV b)),(4,jj),(6,(vN ld)),(7,(vN i)),(5,(qz p i c))]) (tg λ(i:Nat) (ld:Nat) (p:Option Addr) (c:Nat) (ds:List Nat)=>[rowW p 3 1 i c (dgL ds),nA a,nA b]) (tg λ(i:Nat) (ld:Nat) (p:Option Addr) (c:Nat) (ds:List Nat)=>(dg a.x).length-i) 0 0 none 0 ([]) (⟨Si,rfl,OwnOk.none,Z,rfl,Z⟩) (sF O) sr (λi ld p c ds hJ=>?_)
 obtain ⟨hdd,hk,ho,hcy,hv,hm⟩:=hJ
 have ga:=HP a.x i
 have gb:=HP b.x i
 refine zS (q4 (AK O (AK O (st' (v:=(vN ((dg a.x).length))) (AD O underlying80) O (st' (Aa (c:=(decide (i<((dg a.x).length)))) O O (DE (a:=i) (b:=(dg a.x).length))) O (oNl' (zB (sL [0,1,4,6,7,5,12] O) (zA ?_))))))))
 refine zK O (λhc0=>?_) (λhc0=>?_)
 ·replace hc0:=xR hc0
  refine zG (q1 (zM (zS (B9 (EV 6++[(8,true),(6,false),(7,true),(9,true),(10,true)]) sr (Bi O (Bi O (Am (v:=(pP (pB a.p) (pO a.p+i*1))) O (AQ (j:=i) O O a.ok underlying80 sizeOf3 O Z) (Am O (Ad (v:=(vN ((dg a.x).getD i 0))) (i:=1) O O (a.ok.ne Z) Dc (Ea (ds:=dg a.x) (j:=i) Z)) (Bi O (Bi O (Bi O ?_)))))))))))
  refine zD O ?_
  have hz1:=HP b.x i
  refine CQ call193 (λw hw=>Ow b i Z w (hw.holds (i:=2) O)) O (zC sr (Am O (BY (c:=((((dg a.x).getD i 0:Nat):Int)-(((dg b.x).getD i 0:Nat):Int))) O O (A6 Z Z)) (Am O (BY (c:=((((dg a.x).getD i 0:Nat):Int)-(((dg b.x).getD i 0:Nat):Int)-(ld:Int))) O O (A6 Z Z)) (pS' O (zP (zB (sL [0,1,4,6,7,5,8] O) (q2 (asg' O (oNl' (q1 (q4 ?_)))))))))))
  refine AK O (st' (Aa (c:=(decide (((((dg a.x).getD i 0:Nat):Int)-(((dg b.x).getD i 0:Nat):Int)-(ld:Int))<(0:Int)))) O O O) O (oNl' (zB (sL [0,1,4,6,7,5,8,26] O) (zA ?_))))
  refine yV (tg λ(d:Nat) (ld2:Nat)=>d<10000/\ld2<=1/\d+(dg b.x).getD i 0+ld=(dg a.x).getD i 0+10000*ld2) (tg λ(d:Nat) (ld2:Nat)=>[(0,(nV a)),(1,(nV b)),(4,jj),(7,(vN i)),(5,(qz p i c)),(8,(vN d)),(6,(vN ld2))]) (tg λ(d:Nat) (ld2:Nat)=>[rowW p 3 1 i c (dgL ds),nA a,nA b]) ?_ ?_
  ·refine zK O (λhc1=>?_) (λhc1=>?_)
   ·replace hc1:=xR hc1
    exact q4 (AK O (st' (AX (c:=(((dg a.x).getD i 0+10000-(dg b.x).getD i 0-ld:Nat):Int)) O O (by rw [A6 Z Z];omega)) O (asg' O (oNl' (zB (sL [0,1,4,6,7,5,8] O) (zA (zH (asg' O (oNl' (zn ((dg a.x).getD i 0+10000-(dg b.x).getD i 0-ld) 1 (⟨Z,Z,Z⟩) (sF O) sr))))))))))
   ·replace hc1:=xQ hc1
    exact yH (k:=8) (u:=(vN ((dg a.x).getD i 0-(dg b.x).getD i 0-ld))) O (by show Value.int _ _=Value.int _ _;congr 1;omega) (zG (zn ((dg a.x).getD i 0-(dg b.x).getD i 0-ld) 0 (⟨Z,Z,Z⟩) (sF O) sr))
  ·intro d ld2 hJ
   obtain ⟨hd,hl2,hd2⟩:=hJ
   refine zA (zH (AK O (AK O (zZ (V:=λb1=>(qz (jk b1) 1 1)) (T:=3) (cs:=[(vN d)]) (AG O) (Ai (cs:=[(vN d)]) (pv:=[(0,(vN d))]) underlying80 sizeOf3 zeroValue3 jY jY O jV) O (leB O) λb1=>yE (j:=0) (cs2:=dgL (ds++[d])) X8 O ho (by simp [Cw];omega) O O O O jY (GC Z) Z (by rw [F1];rfl) O λp_1 c_1 ho_1 hne_1=>asg' O (oNl' (zB (sL [0,1,4,7,5,8,6] O) (zJ (zA (zH ?_)))))))))
   exact AK O (st' (AX (c:=((i+1:Nat):Int)) O O (AU (a:=i) (b:=1) Z)) O (asg' O (oNl' (zB (sL [0,1,4,7,5,8,6] O) (yg (i+1) ld2 p_1 c_1 (ds++[d]) (⟨Po hdd Z,by simp [hk],ho_1,Z,by rw [CJ,CJ];exact OO hk hv hd2,Z⟩) Z (sF O) (sl sr))))))
 ·replace hc0:=xQ hc0
  have hfin:val10 ds=a.x-b.x:=by
   rw [Dd Z,Dd Z,DI,DI] at hv
   exact Pp hdd hk Z hab hv
  exact zW (zO (yO (zR (q2 (AK O (CQ (args:=[(qz p i c)]) (v:=(qz p ((dg (val10 ds)).length) c)) call194 (λw hw=>(by have h9:=Hv p c ds hdd (by rw [<-hk];exact ho.row) Z w (Lq (hw.holds (i:=0) O) ho hk);rw [<-hk] at h9;exact h9)) O (asg' O (oNl' (zB (sL [0,1,4,6,7,5] O) (zA (zF (ret_one O (rd_tmp (v:=(qz p ((dg (val10 ds)).length) c)) O) (λw hw=>XZ hw (i:=0) O ho hk (by rw [<-hfin];exact GZ hdd) (by rw [hfin]))))))))))))))
theorem Ot (a b:NV) (hla:(dg a.x).length<=549755813888) (hlb:(dg b.x).length<=549755813888) (w:World) (ha:Holds w (nA a)) (hb:Holds w (nA b)):Calls prog 192 #[(nV a),(nV b)] w (Ac w (vI (Dv a.x b.x))):=by
 refine AZ (args:=[(nV a),(nV b)]) (L:=[nA a,nA b]) func192 O O (leB O) (CV O ha (CV O hb (Ao))) (zI (sL [0,1] O) (q4 (asg' O (oNl' (q1 (q4 (AK O (st' (v:=(vN ((dg a.x).length))) (AD O underlying80) O (AK O (st' (v:=(vN ((dg b.x).length))) (AD O underlying80) O (st' (Aa (c:=(decide (((dg a.x).length)<((dg b.x).length)))) O O (DE (a:=(dg a.x).length) (b:=(dg b.x).length))) O ?_)))))))))))
 refine oNl' (zB (sL [0,1,4,10] O) (zA ?_))
 refine zK O (λhc0=>?_) (λhc0=>?_)
 ·replace hc0:=xR hc0
  have hz:Dv a.x b.x = -1:=if_pos (Ng hc0)
  exact q4 (asg' O (oNl' (zA (zF (zL (ret_one O (rd_tmp (v:=(vI (-1:Int))) O) (λw hw=>⟨by rw [hz],hw.out⟩)))))))
 ·replace hc0:=xQ hc0
  refine zG (q1 (q4 (AK O (st' (v:=(vN ((dg a.x).length))) (AD O underlying80) O (AK O (st' (v:=(vN ((dg b.x).length))) (AD O underlying80) O (st' (CC (c:=(decide (((dg b.x).length)<((dg a.x).length)))) O O (DE (a:=(dg b.x).length) (b:=(dg a.x).length))) O (oNl' (zB (sL [0,1,4,15] O) (zA ?_))))))))))
  refine zK O (λhc1=>?_) (λhc1=>?_)
  ·replace hc1:=xR hc1
   have hz:Dv a.x b.x=1:=by
      have h9:=Ng hc1
      unfold Dv;rw [if_neg Z,if_neg Z]
   exact q4 (asg' O (oNl' (zA (zF (zL (ret_one O (rd_tmp (v:=(vI 1)) O) (λw hw=>⟨by rw [hz],hw.out⟩)))))))
  ·replace hc1:=xQ hc1
   refine zG (q1 (q4 (AK O (st' (v:=(vN ((dg a.x).length))) (AD O underlying80) O (st' (BY (c:=((((dg a.x).length:Nat):Int)-1)) O O (A6 Z Z)) O (asg' O (oNl' (zB (sL [0,1,4,5] O) (zA (zM ?_))))))))))
   refine yW (tg λ(j:Nat)=>j<=(dg a.x).length/\(dg a.x).drop j=(dg b.x).drop j) (tg λ(j:Nat)=>[(0,(nV a)),(1,(nV b)),(5,(vI (((j:Nat):Int)-1)))]) (tg λ(j:Nat)=>[nA a,nA b]) (tg λ(j:Nat)=>j) ((dg a.x).length) (⟨Nat.le_refl _,by rw [List.drop_length,List.drop_of_length_le Z]⟩) (sF O) sr (λj hJ=>?_)
   obtain ⟨hm,hd⟩:=hJ
   have hl:(dg a.x).length=(dg b.x).length:=by omega
   refine zS (q4 (AK O (st' (Cy (c:=(decide ((0:Int)<=(((j:Nat):Int)-1)))) O O O) O (oNl' (zB (sL [0,1,5,20] O) (zA ?_))))))
   refine zK O (λhc2=>?_) (λhc2=>?_)
   ·replace hc2:=xR hc2
    have hdj:(dg a.x).drop (j-1+1)=(dg b.x).drop (j-1+1):=by rw [Nat.sub_add_cancel Z];exact hd
    refine yH (k:=5) (u:=(vN (j-1))) O (by show Value.int _ _=Value.int _ _;congr 1;omega) (zG (q1 (zM (zS (zS (B9 (EV 9) sr (Bi O (Bi O (Am (v:=(pP (pB a.p) (pO a.p+(j-1)*1))) O (AQ (j:=j-1) O O a.ok underlying80 sizeOf3 O Z) (Am O (Ad (v:=(vN ((dg a.x).getD (j-1) 0))) (i:=0) O O (a.ok.ne Z) Dc (Ea (ds:=dg a.x) (j:=j-1) Z)) (Bi O ?_)))))))))))
    refine Bi O (Am (v:=(pP (pB b.p) (pO b.p+(j-1)*1))) O (AQ (j:=j-1) O O b.ok underlying80 sizeOf3 O Z) (Am O (Ad (v:=(vN ((dg b.x).getD (j-1) 0))) (i:=1) O O (b.ok.ne Z) Dc (Ea (ds:=dg b.x) (j:=j-1) Z)) (Am O (Aa (c:=(decide (((dg a.x).getD (j-1) 0)<((dg b.x).getD (j-1) 0)))) O O (DE (a:=(dg a.x).getD (j-1) 0) (b:=(dg b.x).getD (j-1) 0))) (zP (zB (sL [0,1,5,31] O) (zA ?_))))))
    refine zK O (λhc3=>?_) (λhc3=>?_)
    ·replace hc3:=xR hc3
     have hz:Dv a.x b.x = -1:=if_pos (WB hl Z hdj hc3)
     exact q4 (asg' O (oNl' (zA (zF (zL (zV (zL (yG (zV (zL (ret_one O (rd_tmp (v:=(vI (-1:Int))) O) (λw hw=>⟨by rw [hz],hw.out⟩))))))))))))
    ·replace hc3:=xQ hc3
     refine zG (q1 (B9 (EV 9) sr (Bi O (Bi O (Am (v:=(pP (pB a.p) (pO a.p+(j-1)*1))) O (AQ (j:=j-1) O O a.ok underlying80 sizeOf3 O Z) (Am O (Ad (v:=(vN ((dg a.x).getD (j-1) 0))) (i:=0) O O (a.ok.ne Z) Dc (Ea (ds:=dg a.x) (j:=j-1) Z)) (Bi O (Bi O (Am (v:=(pP (pB b.p) (pO b.p+(j-1)*1))) O (AQ (j:=j-1) O O b.ok underlying80 sizeOf3 O Z) (Am O (Ad (v:=(vN ((dg b.x).getD (j-1) 0))) (i:=1) O O (b.ok.ne Z) Dc (Ea (ds:=dg b.x) (j:=j-1) Z)) (Am O (CC (c:=(decide (((dg b.x).getD (j-1) 0)<((dg a.x).getD (j-1) 0)))) O O (DE (a:=(dg b.x).getD (j-1) 0) (b:=(dg a.x).getD (j-1) 0))) ?_)))))))))))
     refine zP (zB (sL [0,1,5,40] O) (zA ?_))
     refine zK O (λhc4=>?_) (λhc4=>?_)
     ·replace hc4:=xR hc4
      have hz:Dv a.x b.x=1:=by
        have h9:=WB hl.symm Z hdj.symm hc4
        unfold Dv;rw [if_neg Z,if_neg Z]
      exact q4 (asg' O (oNl' (zA (zF (zV (zL (yG (zV (zL (ret_one O (rd_tmp (v:=(vI 1)) O) (λw hw=>⟨by rw [hz],hw.out⟩)))))))))))
     ·replace hc4:=xQ hc4
      exact zG (zJ (zA (zH (AK O (st' (BY (c:=(((j-1:Nat):Int)-1)) O O (A6 Z Z)) O (asg' O (oNl' (zB (sL [0,1,5] O) (yJ (j-1) (⟨Z,Pn hl Z hdj Z⟩) Z (sF O) sr)))))))))
   ·replace hc2:=xQ hc2
    obtain rfl:j=0:=by omega
    have hz:Dv a.x b.x=0:=OK.2 (cC hd)
    exact zW (zO (zy (zR (q2 (asg' O (oNl' (zA (zF (ret_one O (rd_tmp (v:=(vI 0)) O) (λw hw=>⟨by rw [hz],hw.out⟩))))))))))
end
section
set_option maxRecDepth 100000
theorem fe:VZ prog 80 3 (vN 0) 8:=⟨underlying80,_,_,rfl,rfl,rfl,rfl,rfl⟩
theorem QR (a:NV) (k:Nat) (hk:k<=1099511627776) (hla:(dg a.x).length<=1099511627776) (hv:a.x/10000^k<9223372036854775808) (w:World) (ha:Holds w (nA a)):Calls prog 209 #[(nV a),(vN k)] w (Ac w (vN (a.x/10000^k))):=by
 refine AZ (args:=[(nV a),(vN k)]) (L:=[nA a]) func209 O O (leB O) (CV O ha (Ao)) (zI (sL [0,1] O) (q4 (asg' O (oNl' (q2 (asg' O (oNl' (q1 (q4 (AK O (st' (v:=(vN ((dg a.x).length))) (AD O underlying80) O ?_)))))))))))
 refine st' (BY (c:=((((dg a.x).length:Nat):Int)-1)) O O (A6 Z Z)) O (asg' O (oNl' (zB (sL [0,1,4,5,6] O) (zA (zM ?_)))))
 refine yC (tg λ(n:Nat) (j:Nat)=>j<=(dg a.x).length/\(k<=j\/j=(dg a.x).length)/\n=a.x/10000^j) (tg λ(n:Nat) (j:Nat)=>[(0,(nV a)),(1,(vN k)),(4,(vI 0)),(5,(vN n)),(6,(vI (((j:Nat):Int)-1)))]) (tg λ(n:Nat) (j:Nat)=>[nA a]) (tg λ(n:Nat) (j:Nat)=>j) 0 ((dg a.x).length) (⟨Nat.le_refl _,.inr O,(WC a.x).symm⟩) (sF O) sr (λn j hJ=>?_)
 obtain ⟨hm,hkj,hn⟩:=hJ
 refine zS (q4 (AK O (AK O (st' (Cy (c:=(decide (((k:Nat):Int)<=(((j:Nat):Int)-1)))) O O O) O (oNl' (zB (sL [0,1,4,5,6,12] O) (zA ?_)))))))
 refine zK O (λhc0=>?_) (λhc0=>?_)
 ·replace hc0:=xR hc0
  have hj1:1<=j:=by omega
  have hst:=Sq a.x (j-1)
  rw [Nat.sub_add_cancel hj1,<-hn] at hst
  have hle:=Lc a.x (show k<=j-1 by omega)
  refine yH (k:=6) (u:=(vN (j-1))) O (by show Value.int _ _=Value.int _ _;congr 1;omega) (zG (q1 (zM (zH (AK O (st' (B5 (c:=((10000*n:Nat):Int)) O O (DT (a:=10000) (b:=n) Z)) O (AK O (AK O (st' (v:=(pP (pB a.p) (pO a.p+(j-1)*1))) (AQ (j:=j-1) O O a.ok underlying80 sizeOf3 O Z) O (st' (Ad (v:=(vN ((dg a.x).getD (j-1) 0))) (i:=0) O O (a.ok.ne Z) Dc (Ea (ds:=dg a.x) (j:=j-1) Z)) O (st' (AX (c:=(((10000*n)+((dg a.x).getD (j-1) 0):Nat):Int)) O O (AU (a:=10000*n) (b:=(dg a.x).getD (j-1) 0) Z)) O ?_)))))))))))
  exact asg' O (oNl' (zB (sL [0,1,4,5,6] O) (zJ (zA (zH (AK O (st' (BY (c:=(((j-1:Nat):Int)-1)) O O (A6 Z Z)) O (asg' O (oNl' (zB (sL [0,1,4,5,6] O) (zi ((10000*n)+((dg a.x).getD (j-1) 0)) (j-1) (⟨Z,Z,Z⟩) Z (sF O) sr)))))))))))
 ·replace hc0:=xQ hc0
  have hfin:n=a.x/10000^k:=Pv hn hkj Z
  exact zW (zO (zh (zR (q2 (AK O (asg' O (oNl' (zB (sL [0,1,4,5,6] O) (zA (zF (ret_one O (rd_tmp (v:=(vN n)) O) (λw hw=>⟨by rw [hfin],hw.out⟩))))))))))))
theorem Ov (a b:NV) (hla:(dg a.x).length<=549755813888) (hlb:(dg b.x).length<=549755813888) (w:World) (ha:Holds w (nA a)) (hb:Holds w (nA b)):Calls prog 161 #[(nV a),(nV b)] w (Hd w [] (a.x*b.x)):=by
 refine AZ (args:=[(nV a),(nV b)]) (L:=[nA a,nA b]) func161 O O (leB O) (CV O ha (CV O hb (Ao))) (zI (sL [0,1] O) (q4 (asg' O (oNl' (q2 (AK O (st' (v:=(vN ((dg a.x).length))) (AD O underlying80) O (AK O (st' (v:=(vN ((dg b.x).length))) (AD O underlying80) O (st' (AX (c:=((((dg a.x).length)+((dg b.x).length):Nat):Int)) O O (AU (a:=(dg a.x).length) (b:=(dg b.x).length) Z)) O (y0 (m:=((dg a.x).length)+((dg b.x).length)) fe O O Z O O λb1 ho_b1=>?_)))))))))))
 refine asg' O (q6 (sL [0,1,4,5] O) (q4 (asg' O (oNl' (zA (zM ?_))))))
 refine yC (tg λ(i:Nat) (ds:List Nat)=>KC ds/\(dg a.x).length+(dg b.x).length=ds.length/\i<=(dg a.x).length/\val10 ds=val10 ((dg a.x).take i)*b.x) (tg λ(i:Nat) (ds:List Nat)=>[(0,(nV a)),(1,(nV b)),(4,jj),(5,(qz (jk b1) (((dg a.x).length)+((dg b.x).length)) (((dg a.x).length)+((dg b.x).length)))),(6,(vN i))]) (tg λ(i:Nat) (ds:List Nat)=>[rowW (jk b1) 3 1 ((dg a.x).length+(dg b.x).length) ((dg a.x).length+(dg b.x).length) (dgL ds),nA a,nA b]) (tg λ(i:Nat) (ds:List Nat)=>(dg a.x).length-i) 0 (List.replicate ((dg a.x).length+(dg b.x).length) 0) (⟨Nf _,by simp,xH _,by rw [Kc];simp [val10]⟩) (sF O) sr (λi ds hJ=>?_)
 obtain ⟨hdd,hk,hm,hv⟩:=hJ
 have ga:=HP a.x i
 refine zS (q4 (AK O (AK O (st' (v:=(vN ((dg a.x).length))) (AD O underlying80) O (st' (Aa (c:=(decide (i<((dg a.x).length)))) O O (DE (a:=i) (b:=(dg a.x).length))) O (oNl' (zB (sL [0,1,4,5,6,19] O) (zA ?_))))))))
 refine zK O (λhc0=>?_) (λhc0=>?_)
 ·replace hc0:=xR hc0
  refine zG (q1 (zM (q4 (asg' O (oNl' (q2 (asg' O (oNl' (zA (zM ?_))))))))))
  refine yM (tg λ(cy:Nat) (k:Nat) (es:List Nat)=>KC es/\(dg a.x).length+(dg b.x).length=es.length/\cy<10000/\(k<=(dg b.x).length\/k=(dg b.x).length+1/\cy=0)/\val10 es+10000^(i+k)*cy=val10 ds+10000^i*(dg a.x).getD i 0*val10 ((dg b.x).take k)) (tg λ(cy:Nat) (k:Nat) (es:List Nat)=>[(0,(nV a)),(1,(nV b)),(4,jj),(5,(qz (jk b1) (((dg a.x).length)+((dg b.x).length)) (((dg a.x).length)+((dg b.x).length)))),(6,(vN i)),(7,(vN cy)),(8,(vN k))]) (tg λ(cy:Nat) (k:Nat) (es:List Nat)=>[rowW (jk b1) 3 1 ((dg a.x).length+(dg b.x).length) ((dg a.x).length+(dg b.x).length) (dgL es),nA a,nA b]) (tg λ(cy:Nat) (k:Nat) (es:List Nat)=>(dg b.x).length+2-k) 0 0 ds (⟨hdd,hk,Z,.inl (xH _),by simp [val10]⟩) (sF O) sr (λcy k es hJ=>?_)
  obtain ⟨hee,hke,hcy,hme,hve⟩:=hJ
  have gb:=HP b.x k
  have ge:=Y5 hee (i+k)
  have hbd:=Ud ge ga gb hcy
  have hab:(dg a.x).getD i 0*(dg b.x).getD k 0<=9999*9999:=Nat.mul_le_mul Z Z
  refine zS (q4 (AK O (AK O (st' (v:=(vN ((dg b.x).length))) (AD O underlying80) O (st' (Aa (c:=(decide (k<((dg b.x).length)))) O O (DE (a:=k) (b:=(dg b.x).length))) O (AK O ?_))))))
  refine zg (FM:=[(0,(nV a)),(1,(nV b)),(4,jj),(5,(qz (jk b1) (((dg a.x).length)+((dg b.x).length)) (((dg a.x).length)+((dg b.x).length)))),(6,(vN i)),(7,(vN cy)),(8,(vN k)),(22,(vN k)),(23,(nV b)),(24,(vN ((dg b.x).length))),(25,(qa (decide (k<((dg b.x).length))))),(26,(qa (decide (k<((dg b.x).length))))),(29,(qa ((decide (k<((dg b.x).length)))||(decide (0<cy)))))]) (LM:=[rowW (jk b1) 3 1 ((dg a.x).length+(dg b.x).length) ((dg a.x).length+(dg b.x).length) (dgL es),nA a,nA b]) 3 ?_ ?_
  ·rcases xO (decide (k<((dg b.x).length))) with hg1|hg1
   ·refine zN (k:=26) (u:=qa true) O (by rw [hg1]) ?_
    have hg1':=xR hg1
    exact BP O (BP O (st' (v:=(qa true)) (ex_pick_true O O) O (oNl' (zT CT (xP _)))))
   ·refine zN (k:=26) (u:=qa false) O (by rw [hg1]) ?_
    have hg1':=xQ hg1
    exact FR O (BV (v:=(qa (decide (0<cy)))) O (CC (c:=(decide (0<cy))) O O (DE (a:=0) (b:=cy))) (st' (v:=(qa (decide (0<cy)))) (AN O O) O (oNl' (zT CT (xP _)))))
  refine oNl' (zB (sL [0,1,4,5,6,7,8,29] O) (zA ?_))
  refine zK O (λhc1=>?_) (λhc1=>?_)
  ·simp only [jK] at hc1
   refine zG (q1 (zM (zS (B9 (EV 12++[(15,true),(12,false),(13,true),(14,true),(16,true),(17,true)]) sr (Bi O (Bi O (Bi O (Am O (AX (c:=((i+k:Nat):Int)) O O (AU (a:=i) (b:=k) Z)) (Am (v:=(pP (pB (jk b1)) (pO (jk b1)+(i+k)*1))) O (AQ (j:=i+k) O O ho_b1.row underlying80 sizeOf3 O Z) (Am O (Jn (v:=(vN (es.getD (i+k) 0))) (i:=0) O O ho_b1 (by simp [Cw];omega) (ho_b1.row.ne Z) Dc (Ea (ds:=es) (j:=i+k) Z)) (Bi O ?_)))))))))))
   refine Bi O (Am (v:=(pP (pB a.p) (pO a.p+i*1))) O (AQ (j:=i) O O a.ok underlying80 sizeOf3 O Z) (Am O (Ad (v:=(vN ((dg a.x).getD i 0))) (i:=1) O O (a.ok.ne Z) Dc (Ea (ds:=dg a.x) (j:=i) Z)) (Bi O (Bi O (Bi O (zD O ?_))))))
   have hz1:=HP b.x k
   refine CQ call193 (λw hw=>Ow b k Z w (hw.holds (i:=2) O)) O (zC sr (Am O (B5 (c:=((((dg a.x).getD i 0)*((dg b.x).getD k 0):Nat):Int)) O O (DT (a:=(dg a.x).getD i 0) (b:=(dg b.x).getD k 0) Z)) (Am O (AX (c:=(((es.getD (i+k) 0)+(((dg a.x).getD i 0)*((dg b.x).getD k 0)):Nat):Int)) O O (AU (a:=es.getD (i+k) 0) (b:=((dg a.x).getD i 0)*((dg b.x).getD k 0)) Z)) (Am O (AX (c:=((((es.getD (i+k) 0)+(((dg a.x).getD i 0)*((dg b.x).getD k 0)))+cy:Nat):Int)) O O (AU (a:=(es.getD (i+k) 0)+(((dg a.x).getD i 0)*((dg b.x).getD k 0))) (b:=cy) Z)) (pS' O (zP (zB (sL [0,1,4,5,6,7,8,9] O) (q2 (AK O (AK O (AK O ?_)))))))))))
   refine st' (AX (c:=((i+k:Nat):Int)) O O (AU (a:=i) (b:=k) Z)) O (AK O (st' (Cz (c:=(((((es.getD (i+k) 0)+(((dg a.x).getD i 0)*((dg b.x).getD k 0)))+cy)%10000:Nat):Int)) O O Z (HD (a:=((es.getD (i+k) 0)+(((dg a.x).getD i 0)*((dg b.x).getD k 0)))+cy) (b:=10000))) O (st' (v:=(pP (pB (jk b1)) (pO (jk b1)+(i+k)*1))) (AQ (j:=i+k) O O ho_b1.row underlying80 sizeOf3 O Z) O (AP.storeRow0 (j:=i+k) (v:=(vN ((((es.getD (i+k) 0)+(((dg a.x).getD i 0)*((dg b.x).getD k 0)))+cy)%10000))) O O ho_b1 (by simp [Cw];omega) Z O sizeOf3 O (Sn _ _ _) (oNl' (zB (sL [0,1,4,5,6,7,8,9] O) (zA (zH (AK O (st' (Ec (c:=(((((es.getD (i+k) 0)+(((dg a.x).getD i 0)*((dg b.x).getD k 0)))+cy)/10000:Nat):Int)) O O Z (FW (a:=((es.getD (i+k) 0)+(((dg a.x).getD i 0)*((dg b.x).getD k 0)))+cy) (b:=10000) Z)) O (asg' O ?_)))))))))))
   refine oNl' (zB (sL [0,1,4,5,6,7,8,9] O) (zJ (zA (zH (AK O (st' (AX (c:=((k+1:Nat):Int)) O O (AU (a:=k) (b:=1) Z)) O (asg' O (oNl' (zB (sL [0,1,4,5,6,7,8,9] O) ?_)))))))))
   have hnx:k+1<=(dg b.x).length\/k+1=(dg b.x).length+1/\(es.getD (i+k) 0+(dg a.x).getD i 0*(dg b.x).getD k 0+cy)/10000=0:=by
            by_cases hkb:k<(dg b.x).length
            ·exact .inl Z
            ·obtain rfl:k=(dg b.x).length:=by omega
             refine .inr ⟨rfl,?_⟩
             rw [Dd Z,DI] at hve
             have h9:=Wr (hV:=Zt a.x b.x i hv) hve
             rw [Eg (show ¬(dg b.x).length<(dg b.x).length by omega),Nat.mul_zero,Nat.add_zero]
             omega
   exact yD ((((es.getD (i+k) 0)+(((dg a.x).getD i 0)*((dg b.x).getD k 0)))+cy)/10000) (k+1) (es.set (i+k) ((es.getD (i+k) 0+(dg a.x).getD i 0*(dg b.x).getD k 0+cy)%10000)) (⟨Sj hee Z,by simpa using hke,Z,hnx,by rw [CJ];exact Rk Z hve O⟩) Z (sF O) sr
  ·simp only [jK] at hc1
   have hve2:val10 es=val10 ((dg a.x).take (i+1))*b.x:=by
        rw [show cy=0 by omega,Dd Z,DI,hv,Nat.mul_zero,Nat.add_zero] at hve
        rw [hve,CJ,Nat.add_mul]
   exact zW (zO (zo (zR (zJ (zA (zH (AK O (st' (AX (c:=((i+1:Nat):Int)) O O (AU (a:=i) (b:=1) Z)) O (asg' O (oNl' (zB (sL [0,1,4,5,6,7,8] O) (zi (i+1) es (⟨hee,hke,Z,hve2⟩) Z (sF O) sr))))))))))))
 ·replace hc0:=xQ hc0
  have hfin:val10 ds=a.x*b.x:=by rw [hv,Dd Z,DI]
  exact zW (zO (zh (zR (q2 (AK O (CQ (args:=[(qz (jk b1) (((dg a.x).length)+((dg b.x).length)) (((dg a.x).length)+((dg b.x).length)))]) (v:=(qz (jk b1) ((dg (val10 ds)).length) (((dg a.x).length)+((dg b.x).length)))) call194 (λw hw=>(by have h9:=Hv (jk b1) (((dg a.x).length)+((dg b.x).length)) ds hdd (by rw [<-hk];exact ho_b1.row) Z w (Lq (hw.holds (i:=0) O) ho_b1 hk);rw [<-hk] at h9;exact h9)) O (asg' O (oNl' (zB (sL [0,1,4,5,6] O) (zA (zF (ret_one O (rd_tmp (v:=(qz (jk b1) ((dg (val10 ds)).length) (((dg a.x).length)+((dg b.x).length)))) O) (λw hw=>XZ hw (i:=0) O ho_b1 hk (by rw [<-hfin];exact GZ hdd) (by rw [hfin]))))))))))))))
end
end Go.Proofs.YtcpkbjjmcleplaaGreatDoor
