import Derived.Test.YtpolhpjiahbidaaGreatDoorPart05
import Derived.Test.YtpolhpjiahbidaaGreatDoorPart06
import Derived.Test.YtpolhpjiahbidaaGreatDoorPart07
import Derived.Test.YtpolhpjiahbidaaGreatDoorPart17
import Derived.Test.YtpolhpjiahbidaaGreatDoorPart28
namespace Go.Proofs.YtpolhpjiahbidaaGreatDoor
open Go Go.RowKit Go.Proofs.Tryz
set_option linter.unusedVariables false
set_option linter.unusedSimpArgs false
section
set_option maxRecDepth 100000
theorem Te:ElemT prog 79 3 1 8:=⟨underlying79,DM (by kernel_rfl)⟩
theorem GH (p:Option Addr) (c:Nat) (ds:List Nat) (hd:Ih ds) (ho:Av p ds.length c) (hl:ds.length<=1099511627776) (w:World) (h:Holds w (AE p (dgL ds))):Calls prog 213 #[(Value.slice p ds.length c)] w (Ah w (Value.slice p ((dg (val10 ds)).length) c)):=by
 refine AY (args:=[(Value.slice p ds.length c)]) (L:=[AE p (dgL ds)]) func213 O O (AI O) (Bt O h (Aj)) (OkC.subF (sL [0] O) (q4 (asg' O (OkL.nil (q1 (OkC.block ?_))))))
 refine OkC.lp1 (tg λ(k:Nat)=>k<=ds.length/\val10 (ds.take k)=val10 ds) (tg λ(k:Nat)=>[(2,(Value.slice none 0 0)),(0,(Value.slice p k c))]) (tg λ(k:Nat)=>[AE p (dgL ds)]) (tg λ(k:Nat)=>k) ds.length (⟨Nat.le_refl _,by rw [List.take_length]⟩) (sF O) sr (λk hJ=>?_)
 obtain ⟨hk,hv⟩:=hJ
 have hok:Av p k c:=⟨λe=>⟨by have:=(ho.nil e).1;omega,(ho.nil e).2⟩,ho.spot,Nat.le_trans hk ho.le⟩
 have hkc:=hok.le
 refine OkC.seq (q4 (AM O (AH (v:=(vN k)) (AD O underlying79) O (AH (Bs (c:=(decide (0<k))) O O (CB (a:=0) (b:=k))) O (AM O ?_)))))
 refine OkL.mid (FM:=[(2,(Value.slice none 0 0)),(0,(Value.slice p k c)),(3,(Value.slice p k c)),(4,(vN k)),(5,(Value.bool (decide (0<k)))),(6,(Value.bool (decide (0<k)))),(14,(Value.bool ((decide (0<k))&&(decide ((ds.getD (k-1) 0)=0)))))]) (LM:=[AE p (dgL ds)]) 8 ?_ ?_
 ·rcases Bool.eq_false_or_eq_true (decide (0<k)) with hg1|hg1
  ·skip
   refine OkL.retell (k:=6) (u:=Value.bool true) O (by rw [hg1]) ?_
   have hg1':=hg1
   replace hg1':=of_decide_eq_true hg1'
   exact OkL.step (v:=(Value.slice p k c)) (AB O) (Ai O) O (AI O) (OkL.step (v:=(Value.slice p k c)) (AB O) (Ai O) O (AI O) (OkL.step (v:=(vN k)) (AB O) (AD O underlying79) O (AI O) (OkL.step (v:=(vN (k-1))) (AB O) (BI (c:=((k-1:Nat):Int)) O O (Br (a:=k) (b:=1) Z Z)) O (AI O) (OkL.step (v:=(pP (pB p) (pO p+(k-1)*1))) (AB O) (AL (j:=k-1) O O hok underlying79 sizeOf3 O Z) O (AI O) (OkL.step (v:=(vN (ds.getD (k-1) 0))) (AB O) (AW (v:=(vN (ds.getD (k-1) 0))) (i:=0) O O (hok.ne Z) BL (DO (ds:=ds) (j:=k-1) Z)) O (AI O) (OkL.step (v:=(Value.bool (decide ((ds.getD (k-1) 0)=0)))) (AB O) (BG (c:=(decide ((ds.getD (k-1) 0)=0))) O O (K7 (a:=ds.getD (k-1) 0) (b:=0))) O (AI O) (AH (v:=(Value.bool (decide ((ds.getD (k-1) 0)=0)))) (AO O O) O (OkL.nil (OkQ.mid (sS O (sS O (sS O (sS O (sS O (sS (by first|rfl|(rw [hg1];rfl)|rw [hg1]) (sS (by first|rfl|(rw [hg1];rfl)|rw [hg1]) (sN)))))))) (List.Sublist.refl _))))))))))
  ·skip
   refine OkL.retell (k:=6) (u:=Value.bool false) O (by rw [hg1]) ?_
   have hg1':=hg1
   replace hg1':=of_decide_eq_false hg1'
   exact OkL.skip (AC O) O (AI O) (OkL.skip (AC O) O (AI O) (OkL.skip (AC O) O (AI O) (OkL.skip (AC O) O (AI O) (OkL.skip (AC O) O (AI O) (OkL.skip (AC O) O (AI O) (OkL.skip (AC O) O (AI O) (AH (v:=(Value.bool false)) (AJ O O) O (OkL.nil (OkQ.mid (sS O (sS O (sS O (sS O (sS O (sS (by first|rfl|(rw [hg1];rfl)|rw [hg1]) (sS (by first|rfl|(rw [hg1];rfl)|rw [hg1]) (sN)))))))) (List.Sublist.refl _))))))))))
 refine OkL.nil (OkQ.subF (sL [2,0,14] O) (OkQ.then_ ?_))
 refine OkC.cond O (λhc0=>?_) (λhc0=>?_)
 ·simp only [Bool.and_eq_true,Bool.or_eq_true,Bool.and_eq_false_iff,Bool.or_eq_false_iff,Bool.not_eq_true',Bool.not_eq_false',decide_eq_true_eq,decide_eq_false_iff_not] at hc0
  refine OkC.skip (OkQ.then_ (OkC.block (OkC.region (AM O (AM O (AH (v:=(vN k)) (AD O underlying79) O (AH (BI (c:=((k-1:Nat):Int)) O O (Br (a:=k) (b:=1) Z Z)) O (AH (v:=(Value.slice p (k-1) c)) (GJ (m:=k-1) O O underlying79 sizeOf3 Z) O (asg' O (OkL.nil (OkQ.subF (sL [2,0] O) ?_)))))))))))
  exact OkQ.in_normal (OkQ.round1 (k-1) (⟨Z,by rw [Kt Z hc0.2,Nat.sub_add_cancel hc0.1,hv]⟩) Z (sF O) sr)
 ·simp only [Bool.and_eq_true,Bool.or_eq_true,Bool.and_eq_false_iff,Bool.or_eq_false_iff,Bool.not_eq_true',Bool.not_eq_false',decide_eq_true_eq,decide_eq_false_iff_not] at hc0
  have htl:=Td hd hk hv (hc0.imp (λh=>by omega) id)
  exact OkC.exit (OkQ.then_exit (OkQ.round1_exit (OkQ.in_exit (q2 (AM O (asg' O (OkL.nil (OkQ.subF (sL [2,0] O) (OkQ.then_ (OkC.ret (ret_one O (rd_tmp (v:=(Value.slice p k c)) O) (λw hw=>⟨by rw [<-htl],hw.out⟩))))))))))))
theorem Mo (a:NV) (i:Nat) (hi:i<=1099511627776) (w:World) (ha:Holds w (nA a)):Calls prog 212 #[(nV a),(vN i)] w (Ah w (vN ((dg a.x).getD i 0))):=by
 refine AY (args:=[(nV a),(vN i)]) (L:=[nA a]) func212 O O (AI O) (Bt O ha (Aj)) (OkC.subF (sL [0,1] O) (q4 (asg' O (OkL.nil (q1 (q4 (AM O (AM O (AH (v:=(vN ((dg a.x).length))) (AD O underlying79) O (AH (Ae (c:=(decide (i<((dg a.x).length)))) O O (CB (a:=i) (b:=(dg a.x).length))) O (OkL.nil ?_)))))))))))
 refine OkQ.subF (sL [0,1,4,8] O) (OkQ.then_ ?_)
 refine OkC.cond O (λhc0=>?_) (λhc0=>?_)
 ·replace hc0:=of_decide_eq_true hc0
  exact q4 (AM O (AM O (AH (v:=(pP (pB a.p) (pO a.p+i*1))) (AL (j:=i) O O a.ok underlying79 sizeOf3 O Z) O (AH (AW (v:=(vN ((dg a.x).getD i 0))) (i:=0) O O (a.ok.ne Z) BL (DO (ds:=dg a.x) (j:=i) Z)) O (asg' O (OkL.nil (OkQ.subF (sL [0,1,4] O) (OkQ.then_ (OkC.ret (OkQ.then_ret (ret_one O (rd_tmp (v:=(vN ((dg a.x).getD i 0))) O) (λw hw=>⟨rfl,hw.out⟩))))))))))))
 ·replace hc0:=of_decide_eq_false hc0
  have hg:=DW hc0
  exact OkC.skip (q2 (asg' O (OkL.nil (OkQ.then_ (OkC.ret (ret_one O (rd_tmp (v:=(vI 0)) O) (λw hw=>⟨by rw [hg];rfl,hw.out⟩)))))))
theorem PP (x:Nat) (hx:x<18446744073709551616) (w:World)  :Calls prog 207 #[(vK .u64 x)] w (GP w [] x):=by
 have hlen:(dg x).length<=5:=Fl Z
 refine Ab (args:=[(vK .u64 x)]) func207 O O (AI O) (OkC.subF (sL [0] O) (q4 (asg' O (OkL.nil (q2 (asg' O (OkL.nilRow 3 1 (OkL.nil (q1 (OkC.block ?_))))))))))
 refine OkC.lp5 (tg λ(y:Nat) (p:Option Addr) (c:Nat) (k:Nat) (ds:List Nat)=>dg x=ds++dg y/\k=ds.length/\OwnOk p k c/\y<=x) (tg λ(y:Nat) (p:Option Addr) (c:Nat) (k:Nat) (ds:List Nat)=>[(2,(Value.slice none 0 0)),(0,(vK .u64 y)),(3,(Value.slice p k c))]) (tg λ(y:Nat) (p:Option Addr) (c:Nat) (k:Nat) (ds:List Nat)=>[rowW p 3 1 k c (dgL ds)]) (tg λ(y:Nat) (p:Option Addr) (c:Nat) (k:Nat) (ds:List Nat)=>y) x none 0 0 ([]) (⟨rfl,rfl,OwnOk.none,Nat.le_refl _⟩) (sF O) sr (λy p c k ds hJ=>?_)
 obtain ⟨hd,hk,ho,hy⟩:=hJ
 have hkl:k<=5:=by have:=congrArg List.length hd;rw [List.length_append] at this;omega
 refine OkC.seq (q4 (AM O (AH (Bs (c:=(decide (0<y))) O O (CB (a:=0) (b:=y))) O (OkL.nil (OkQ.subF (sL [2,0,3,5] O) (OkQ.then_ ?_))))))
 refine OkC.cond O (λhc0=>?_) (λhc0=>?_)
 ·replace hc0:=of_decide_eq_true hc0
  refine OkC.skip (OkQ.then_ (OkC.block (q4 (AM O (AM O (AH (Dy (c:=((y%10000:Nat):Int)) O O Z (Oo (a:=y) (b:=10000))) O (AH (Aw (c:=((y%10000:Nat):Int)) O underlying69 underlying3 (Ec Z)) O (OkL.openV (V:=λb1=>(Value.slice (some ⟨b1,0,none⟩) 1 1)) (T:=3) (cs:=[(vN (y%10000))]) (AP O) (Ao (cs:=[(vN (y%10000))]) (pv:=[(0,(vN (y%10000)))]) underlying79 sizeOf3 zeroValue3 (by decide) (by decide) O (by kernel_rfl)) O (AI O) λb1=>OkL.append1 (j:=0) (cs2:=dgL (ds++[y%10000])) Te O ho (by simp [B7];omega) O O O O (by decide) (G0 Z) Z (by rw [En];rfl) O λp_1 c_1 ho_1 hne_1=>asg' O (OkL.nil ?_)))))))))
  exact OkQ.subF (sL [2,0,3] O) (OkQ.then_ (OkC.region (AM O (AH (Er (c:=((y/10000:Nat):Int)) O O Z (Hv (a:=y) (b:=10000) Z)) O (asg' O (OkL.nil (OkQ.subF (sL [2,0,3] O) (OkQ.in_normal (OkQ.round5 (y/10000) p_1 c_1 (k+1) (ds++[y%10000]) (⟨by rw [hd,FP Z,List.append_assoc];rfl,by simp [hk],ho_1,Z⟩) Z (sF O) (sl sr))))))))))
 ·replace hc0:=of_decide_eq_false hc0
  refine OkC.exit (OkQ.then_exit (OkQ.round5_exit (OkQ.in_exit (q2 (AM O (asg' O (OkL.nil (OkQ.subF (sL [2,0,3] O) (OkQ.then_ (OkC.ret ?_))))))))))
  obtain rfl:y=0:=by omega
  rw [E_,List.append_nil] at hd
  exact ret_one O (rd_tmp (v:=(Value.slice p k c)) O) (λw hw=>UZ hw (i:=0) O ho hk (by rw [hd,List.take_length]) (by rw [hd,<-hk]))
end
section
set_option maxRecDepth 100000
theorem Wo (a b:NV) (hla:(dg a.x).length<=549755813888) (hlb:(dg b.x).length<=549755813888) (w:World) (ha:Holds w (nA a)) (hb:Holds w (nA b)):Calls prog 198 #[(nV a),(nV b)] w (GP w [] (a.x+b.x)):=by
 refine AY (args:=[(nV a),(nV b)]) (L:=[nA a,nA b]) func198 O O (AI O) (Bt O ha (Bt O hb (Aj))) (OkC.subF (sL [0,1] O) (q4 (asg' O (OkL.nil (q2 (asg' O (OkL.nilRow 3 1 (OkL.nil (q2 (asg' O (OkL.nil ?_)))))))))))
 refine q1 (q4 (asg' O (OkL.nil (OkQ.then_ (OkC.block ?_)))))
 refine OkC.lp5 (tg λ(i:Nat) (cy:Nat) (p:Option Addr) (c:Nat) (ds:List Nat)=>Ih ds/\i=ds.length/\OwnOk p i c/\cy<=1/\val10 ds+10000^i*cy=val10 ((dg a.x).take i)+val10 ((dg b.x).take i)/\(i<=max (dg a.x).length (dg b.x).length\/i<=max (dg a.x).length (dg b.x).length+1/\cy=0)) (tg λ(i:Nat) (cy:Nat) (p:Option Addr) (c:Nat) (ds:List Nat)=>[(0,(nV a)),(1,(nV b)),(4,(Value.slice none 0 0)),(6,(vN cy)),(7,(vN i)),(5,(Value.slice p i c))]) (tg λ(i:Nat) (cy:Nat) (p:Option Addr) (c:Nat) (ds:List Nat)=>[rowW p 3 1 i c (dgL ds),nA a,nA b]) (tg λ(i:Nat) (cy:Nat) (p:Option Addr) (c:Nat) (ds:List Nat)=>max (dg a.x).length (dg b.x).length+2-i) 0 0 none 0 ([]) (⟨QX,rfl,OwnOk.none,Z,rfl,.inl Z⟩) (sF O) sr (λi cy p c ds hJ=>?_)
 obtain ⟨hdd,hk,ho,hcy,hv,hm⟩:=hJ
 have ga:=F1 a.x i
 have gb:=F1 b.x i
 refine OkC.seq (q4 (AM O (AM O (AH (v:=(vN ((dg a.x).length))) (AD O underlying79) O (AH (Ae (c:=(decide (i<((dg a.x).length)))) O O (CB (a:=i) (b:=(dg a.x).length))) O (AM O ?_))))))
 refine OkL.mid (FM:=[(0,(nV a)),(1,(nV b)),(4,(Value.slice none 0 0)),(6,(vN cy)),(7,(vN i)),(5,(Value.slice p i c)),(9,(vN i)),(10,(nV a)),(11,(vN ((dg a.x).length))),(12,(Value.bool (decide (i<((dg a.x).length))))),(13,(Value.bool (decide (i<((dg a.x).length))))),(18,(Value.bool ((decide (i<((dg a.x).length)))||(decide (i<((dg b.x).length))))))]) (LM:=[rowW p 3 1 i c (dgL ds),nA a,nA b]) 5 ?_ ?_
 ·rcases Bool.eq_false_or_eq_true (decide (i<((dg a.x).length))) with hg1|hg1
  ·skip
   refine OkL.retell (k:=13) (u:=Value.bool true) O (by rw [hg1]) ?_
   have hg1':=hg1
   replace hg1':=of_decide_eq_true hg1'
   exact OkL.skip (AC O) O (AI O) (OkL.skip (AC O) O (AI O) (OkL.skip (AC O) O (AI O) (OkL.skip (AC O) O (AI O) (AH (v:=(Value.bool true)) (AO O O) O (OkL.nil (OkQ.mid (sS O (sS O (sS O (sS O (sS O (sS O (sS O (sS O (sS O (sS O (sS (by first|rfl|(rw [hg1];rfl)|rw [hg1]) (sS (by first|rfl|(rw [hg1];rfl)|rw [hg1]) (sN))))))))))))) (List.Sublist.refl _)))))))
  ·skip
   refine OkL.retell (k:=13) (u:=Value.bool false) O (by rw [hg1]) ?_
   have hg1':=hg1
   replace hg1':=of_decide_eq_false hg1'
   exact OkL.step (v:=(vN i)) (AB O) (Ai O) O (AI O) (OkL.step (v:=(nV b)) (AB O) (Ai O) O (AI O) (OkL.step (v:=(vN ((dg b.x).length))) (AB O) (AD O underlying79) O (AI O) (OkL.step (v:=(Value.bool (decide (i<((dg b.x).length))))) (AB O) (Ae (c:=(decide (i<((dg b.x).length)))) O O (CB (a:=i) (b:=(dg b.x).length))) O (AI O) (AH (v:=(Value.bool (decide (i<((dg b.x).length))))) (AJ O O) O (OkL.nil (OkQ.mid (sS O (sS O (sS O (sS O (sS O (sS O (sS O (sS O (sS O (sS O (sS (by first|rfl|(rw [hg1];rfl)|rw [hg1]) (sS (by first|rfl|(rw [hg1];rfl)|rw [hg1]) (sN))))))))))))) (List.Sublist.refl _)))))))
 refine AM O ?_
 refine OkL.mid (FM:=[(0,(nV a)),(1,(nV b)),(4,(Value.slice none 0 0)),(6,(vN cy)),(7,(vN i)),(5,(Value.slice p i c)),(9,(vN i)),(10,(nV a)),(11,(vN ((dg a.x).length))),(12,(Value.bool (decide (i<((dg a.x).length))))),(13,(Value.bool (decide (i<((dg a.x).length))))),(18,(Value.bool ((decide (i<((dg a.x).length)))||(decide (i<((dg b.x).length)))))),(19,(Value.bool ((decide (i<((dg a.x).length)))||(decide (i<((dg b.x).length)))))),(22,(Value.bool (((decide (i<((dg a.x).length)))||(decide (i<((dg b.x).length))))||(decide (0<cy)))))]) (LM:=[rowW p 3 1 i c (dgL ds),nA a,nA b]) 3 ?_ ?_
 ·rcases Bool.eq_false_or_eq_true ((decide (i<((dg a.x).length)))||(decide (i<((dg b.x).length)))) with hg2|hg2
  ·skip
   refine OkL.retell (k:=19) (u:=Value.bool true) O (by rw [hg2]) ?_
   have hg2':=hg2
   simp only [Bool.and_eq_true,Bool.or_eq_true,Bool.and_eq_false_iff,Bool.or_eq_false_iff,Bool.not_eq_true',Bool.not_eq_false',decide_eq_true_eq,decide_eq_false_iff_not] at hg2'
   exact OkL.skip (AC O) O (AI O) (OkL.skip (AC O) O (AI O) (AH (v:=(Value.bool true)) (AO O O) O (OkL.nil (OkQ.mid (sS O (sS O (sS O (sS O (sS O (sS O (sS O (sS O (sS O (sS O (sS O (sS O (sS (by first|rfl|(rw [hg2];rfl)|rw [hg2]) (sS (by first|rfl|(rw [hg2];rfl)|rw [hg2]) (sN))))))))))))))) (List.Sublist.refl _)))))
  ·skip
   refine OkL.retell (k:=19) (u:=Value.bool false) O (by rw [hg2]) ?_
   have hg2':=hg2
   simp only [Bool.and_eq_true,Bool.or_eq_true,Bool.and_eq_false_iff,Bool.or_eq_false_iff,Bool.not_eq_true',Bool.not_eq_false',decide_eq_true_eq,decide_eq_false_iff_not] at hg2'
   exact OkL.step (v:=(vN cy)) (AB O) (Ai O) O (AI O) (OkL.step (v:=(Value.bool (decide (0<cy)))) (AB O) (Bs (c:=(decide (0<cy))) O O (CB (a:=0) (b:=cy))) O (AI O) (AH (v:=(Value.bool (decide (0<cy)))) (AJ O O) O (OkL.nil (OkQ.mid (sS O (sS O (sS O (sS O (sS O (sS O (sS O (sS O (sS O (sS O (sS O (sS O (sS (by first|rfl|(rw [hg2];rfl)|rw [hg2]) (sS (by first|rfl|(rw [hg2];rfl)|rw [hg2]) (sN))))))))))))))) (List.Sublist.refl _)))))
 refine OkL.nil (OkQ.subF (sL [0,1,4,6,7,5,22] O) (OkQ.then_ ?_))
 refine OkC.cond O (λhc0=>?_) (λhc0=>?_)
 ·simp only [Bool.and_eq_true,Bool.or_eq_true,Bool.and_eq_false_iff,Bool.or_eq_false_iff,Bool.not_eq_true',Bool.not_eq_false',decide_eq_true_eq,decide_eq_false_iff_not] at hc0
  refine OkC.skip (q1 (OkC.block (q4 (AM O (AM O ?_)))))
  have hz1:=F1 a.x i
  refine Ce call212 (λw hw=>Mo a i Z w (hw.holds (i:=1) O)) O (AM O (AM O ?_))
  have hz2:=F1 b.x i
  refine Ce call212 (λw hw=>Mo b i Z w (hw.holds (i:=2) O)) O (AH (AX (c:=((((dg a.x).getD i 0)+((dg b.x).getD i 0):Nat):Int)) O O (AR (a:=(dg a.x).getD i 0) (b:=(dg b.x).getD i 0) Z)) O (AM O (AH (AX (c:=(((((dg a.x).getD i 0)+((dg b.x).getD i 0))+cy:Nat):Int)) O O (AR (a:=((dg a.x).getD i 0)+((dg b.x).getD i 0)) (b:=cy) Z)) O (asg' O (q3 (sL [0,1,4,6,7,5,8] O) (AM O (AM O (AH (Dy (c:=((((((dg a.x).getD i 0)+((dg b.x).getD i 0))+cy)%10000:Nat):Int)) O O Z (Oo (a:=(((dg a.x).getD i 0)+((dg b.x).getD i 0))+cy) (b:=10000))) O (OkL.openV (V:=λb1=>(Value.slice (some ⟨b1,0,none⟩) 1 1)) (T:=3) (cs:=[(vN (((((dg a.x).getD i 0)+((dg b.x).getD i 0))+cy)%10000))]) (AP O) (Ao (cs:=[(vN (((((dg a.x).getD i 0)+((dg b.x).getD i 0))+cy)%10000))]) (pv:=[(0,(vN (((((dg a.x).getD i 0)+((dg b.x).getD i 0))+cy)%10000)))]) underlying79 sizeOf3 zeroValue3 (by decide) (by decide) O (by kernel_rfl)) O (AI O) λb1=>OkL.append1 (j:=0) (cs2:=dgL (ds++[((((dg a.x).getD i 0)+((dg b.x).getD i 0))+cy)%10000])) Te O ho (by simp [B7];omega) O O O O (by decide) (G0 Z) Z (by rw [En];rfl) O λp_1 c_1 ho_1 hne_1=>asg' O ?_)))))))))
  refine OkL.nil (OkQ.subF (sL [0,1,4,6,7,5,8] O) (OkQ.then_ (OkC.region (AM O (AH (Er (c:=((((((dg a.x).getD i 0)+((dg b.x).getD i 0))+cy)/10000:Nat):Int)) O O Z (Em (a:=(((dg a.x).getD i 0)+((dg b.x).getD i 0))+cy) (b:=10000) Z)) O (asg' O (OkL.nil (OkQ.subF (sL [0,1,4,6,7,5,8] O) (OkQ.in_normal (OkQ.then_ (OkC.region ?_)))))))))))
  refine AM O (AH (AX (c:=((i+1:Nat):Int)) O O (AR (a:=i) (b:=1) Z)) O (asg' O (OkL.nil (OkQ.subF (sL [0,1,4,6,7,5,8] O) ?_))))
  have hnx:i+1<=max (dg a.x).length (dg b.x).length\/i+1<=max (dg a.x).length (dg b.x).length+1/\((dg a.x).getD i 0+(dg b.x).getD i 0+cy)/10000=0:=by
            by_cases hi:i<max (dg a.x).length (dg b.x).length
            ·exact .inl Z
            ·refine .inr ⟨Z,?_⟩
             rw [DW (show ¬i<(dg a.x).length by omega),DW (show ¬i<(dg b.x).length by omega)]
             omega
  exact OkQ.round5 (i+1) (((dg a.x).getD i 0+(dg b.x).getD i 0+cy)/10000) p_1 c_1 (ds++[((dg a.x).getD i 0+(dg b.x).getD i 0+cy)%10000]) (⟨N7 hdd Z,by simp [hk],ho_1,Z,by rw [Bm,Bm];exact SE hk hv O,hnx⟩) Z (sF O) (sl sr)
 ·simp only [Bool.and_eq_true,Bool.or_eq_true,Bool.and_eq_false_iff,Bool.or_eq_false_iff,Bool.not_eq_true',Bool.not_eq_false',decide_eq_true_eq,decide_eq_false_iff_not] at hc0
  have hfin:val10 ds=a.x+b.x:=by rw [Cj Z,Cj Z,CM,CM,show cy=0 by omega] at hv;simpa using hv
  exact OkC.exit (OkQ.then_exit (OkQ.round5_exit (OkQ.in_exit (q2 (AM O (Ce (args:=[(Value.slice p i c)]) (v:=(Value.slice p ((dg (val10 ds)).length) c)) call213 (λw hw=>(by have h9:=GH p c ds hdd (by rw [<-hk];exact ho.row) Z w (JM (hw.holds (i:=0) O) ho hk);rw [<-hk] at h9;exact h9)) O (asg' O (OkL.nil (OkQ.subF (sL [0,1,4,6,7,5] O) (OkQ.then_ (OkC.ret (ret_one O (rd_tmp (v:=(Value.slice p ((dg (val10 ds)).length) c)) O) (λw hw=>UZ hw (i:=0) O ho hk (by rw [<-hfin];exact FZ hdd) (by rw [hfin]))))))))))))))
theorem Pw (a b:NV) (hab:b.x<=a.x) (hla:(dg a.x).length<=549755813888) (w:World) (ha:Holds w (nA a)) (hb:Holds w (nA b)):Calls prog 210 #[(nV a),(nV b)] w (GP w [] (a.x-b.x)):=by
 have hlb:=Hw hab
 refine AY (args:=[(nV a),(nV b)]) (L:=[nA a,nA b]) func210 O O (AI O) (Bt O ha (Bt O hb (Aj))) (OkC.subF (sL [0,1] O) (q4 (asg' O (OkL.nil (q2 (asg' O (OkL.nilRow 3 1 (OkL.nil (q2 (asg' O (OkL.nil ?_)))))))))))
 refine q1 (q4 (asg' O (OkL.nil (OkQ.then_ (OkC.block ?_)))))
 refine OkC.lp5 (tg λ(i:Nat) (ld:Nat) (p:Option Addr) (c:Nat) (ds:List Nat)=>Ih ds/\i=ds.length/\OwnOk p i c/\ld<=1/\val10 ds+val10 ((dg b.x).take i)=val10 ((dg a.x).take i)+10000^i*ld/\i<=(dg a.x).length) (tg λ(i:Nat) (ld:Nat) (p:Option Addr) (c:Nat) (ds:List Nat)=>[(0,(nV a)),(1,(nV b)),(4,(Value.slice none 0 0)),(6,(vN ld)),(7,(vN i)),(5,(Value.slice p i c))]) (tg λ(i:Nat) (ld:Nat) (p:Option Addr) (c:Nat) (ds:List Nat)=>[rowW p 3 1 i c (dgL ds),nA a,nA b]) (tg λ(i:Nat) (ld:Nat) (p:Option Addr) (c:Nat) (ds:List Nat)=>(dg a.x).length-i) 0 0 none 0 ([]) (⟨QX,rfl,OwnOk.none,Z,rfl,Z⟩) (sF O) sr (λi ld p c ds hJ=>?_)
 obtain ⟨hdd,hk,ho,hcy,hv,hm⟩:=hJ
 have ga:=F1 a.x i
 have gb:=F1 b.x i
 refine OkC.seq (q4 (AM O (AM O (AH (v:=(vN ((dg a.x).length))) (AD O underlying79) O (AH (Ae (c:=(decide (i<((dg a.x).length)))) O O (CB (a:=i) (b:=(dg a.x).length))) O (OkL.nil (OkQ.subF (sL [0,1,4,6,7,5,12] O) (OkQ.then_ ?_))))))))
 refine OkC.cond O (λhc0=>?_) (λhc0=>?_)
 ·replace hc0:=of_decide_eq_true hc0
  refine OkC.skip (q1 (OkC.block (OkC.seq (Cd [(0,true),(1,true),(2,true),(3,true),(4,true),(5,true),(8,true),(6,false),(7,true),(9,true),(10,true)] sr (BV O (BV O (Al (v:=(pP (pB a.p) (pO a.p+i*1))) O (AL (j:=i) O O a.ok underlying79 sizeOf3 O Z) (Al O (AW (v:=(vN ((dg a.x).getD i 0))) (i:=1) O O (a.ok.ne Z) BL (DO (ds:=dg a.x) (j:=i) Z)) (BV O (BV O (BV O ?_)))))))))))
  refine OkE.imp O ?_
  have hz1:=F1 b.x i
  refine Ce call212 (λw hw=>Mo b i Z w (hw.holds (i:=2) O)) O (OkE.back sr (Al O (BI (c:=((((dg a.x).getD i 0:Nat):Int)-(((dg b.x).getD i 0:Nat):Int))) O O (BE Z Z)) (Al O (BI (c:=((((dg a.x).getD i 0:Nat):Int)-(((dg b.x).getD i 0:Nat):Int)-(ld:Int))) O O (BE Z Z)) (pS' O (OkE.nil (OkQ.subF (sL [0,1,4,6,7,5,8] O) (q2 (asg' O (OkL.nil (q1 (q4 ?_)))))))))))
  refine AM O (AH (Ae (c:=(decide (((((dg a.x).getD i 0:Nat):Int)-(((dg b.x).getD i 0:Nat):Int)-(ld:Int))<(0:Int)))) O O O) O (OkL.nil (OkQ.subF (sL [0,1,4,6,7,5,8,26] O) (OkQ.then_ ?_))))
  refine OkC.jn2 (tg λ(d:Nat) (ld2:Nat)=>d<10000/\ld2<=1/\d+(dg b.x).getD i 0+ld=(dg a.x).getD i 0+10000*ld2) (tg λ(d:Nat) (ld2:Nat)=>[(0,(nV a)),(1,(nV b)),(4,(Value.slice none 0 0)),(7,(vN i)),(5,(Value.slice p i c)),(8,(vN d)),(6,(vN ld2))]) (tg λ(d:Nat) (ld2:Nat)=>[rowW p 3 1 i c (dgL ds),nA a,nA b]) ?_ ?_
  ·skip
   refine OkC.cond O (λhc1=>?_) (λhc1=>?_)
   ·replace hc1:=of_decide_eq_true hc1
    exact q4 (AM O (AH (AX (c:=(((dg a.x).getD i 0+10000-(dg b.x).getD i 0-ld:Nat):Int)) O O (by rw [BE Z Z];omega)) O (asg' O (OkL.nil (OkQ.subF (sL [0,1,4,6,7,5,8] O) (OkQ.then_ (OkC.region (asg' O (OkL.nil (OkQ.join2 ((dg a.x).getD i 0+10000-(dg b.x).getD i 0-ld) 1 (⟨Z,Z,Z⟩) (sF O) sr))))))))))
   ·replace hc1:=of_decide_eq_false hc1
    exact OkC.retell (k:=8) (u:=(vN ((dg a.x).getD i 0-(dg b.x).getD i 0-ld))) O (by show Value.int _ _=Value.int _ _;congr 1;omega) (OkC.skip (OkQ.join2 ((dg a.x).getD i 0-(dg b.x).getD i 0-ld) 0 (⟨Z,Z,Z⟩) (sF O) sr))
  ·intro d ld2 hJ
   obtain ⟨hd,hl2,hd2⟩:=hJ
   refine OkQ.then_ (OkC.region (AM O (AM O (OkL.openV (V:=λb1=>(Value.slice (some ⟨b1,0,none⟩) 1 1)) (T:=3) (cs:=[(vN d)]) (AP O) (Ao (cs:=[(vN d)]) (pv:=[(0,(vN d))]) underlying79 sizeOf3 zeroValue3 (by decide) (by decide) O (by kernel_rfl)) O (AI O) λb1=>OkL.append1 (j:=0) (cs2:=dgL (ds++[d])) Te O ho (by simp [B7];omega) O O O O (by decide) (G0 Z) Z (by rw [En];rfl) O λp_1 c_1 ho_1 hne_1=>asg' O (OkL.nil (OkQ.subF (sL [0,1,4,7,5,8,6] O) (OkQ.in_normal (OkQ.then_ (OkC.region ?_)))))))))
   exact AM O (AH (AX (c:=((i+1:Nat):Int)) O O (AR (a:=i) (b:=1) Z)) O (asg' O (OkL.nil (OkQ.subF (sL [0,1,4,7,5,8,6] O) (OkQ.round5 (i+1) ld2 p_1 c_1 (ds++[d]) (⟨N7 hdd Z,by simp [hk],ho_1,Z,by rw [Bm,Bm];exact Mi hk hv hd2,Z⟩) Z (sF O) (sl sr))))))
 ·replace hc0:=of_decide_eq_false hc0
  have hfin:val10 ds=a.x-b.x:=by
   rw [Cj Z,Cj Z,CM,CM] at hv
   exact Ms hdd hk Z hab hv
  exact OkC.exit (OkQ.then_exit (OkQ.round5_exit (OkQ.in_exit (q2 (AM O (Ce (args:=[(Value.slice p i c)]) (v:=(Value.slice p ((dg (val10 ds)).length) c)) call213 (λw hw=>(by have h9:=GH p c ds hdd (by rw [<-hk];exact ho.row) Z w (JM (hw.holds (i:=0) O) ho hk);rw [<-hk] at h9;exact h9)) O (asg' O (OkL.nil (OkQ.subF (sL [0,1,4,6,7,5] O) (OkQ.then_ (OkC.ret (ret_one O (rd_tmp (v:=(Value.slice p ((dg (val10 ds)).length) c)) O) (λw hw=>UZ hw (i:=0) O ho hk (by rw [<-hfin];exact FZ hdd) (by rw [hfin]))))))))))))))
theorem Mf (a b:NV) (hla:(dg a.x).length<=549755813888) (hlb:(dg b.x).length<=549755813888) (w:World) (ha:Holds w (nA a)) (hb:Holds w (nA b)):Calls prog 211 #[(nV a),(nV b)] w (Ah w (vI (Cu a.x b.x))):=by
 refine AY (args:=[(nV a),(nV b)]) (L:=[nA a,nA b]) func211 O O (AI O) (Bt O ha (Bt O hb (Aj))) (OkC.subF (sL [0,1] O) (q4 (asg' O (OkL.nil (q1 (q4 (AM O (AH (v:=(vN ((dg a.x).length))) (AD O underlying79) O (AM O (AH (v:=(vN ((dg b.x).length))) (AD O underlying79) O (AH (Ae (c:=(decide (((dg a.x).length)<((dg b.x).length)))) O O (CB (a:=(dg a.x).length) (b:=(dg b.x).length))) O ?_)))))))))))
 refine OkL.nil (OkQ.subF (sL [0,1,4,10] O) (OkQ.then_ ?_))
 refine OkC.cond O (λhc0=>?_) (λhc0=>?_)
 ·replace hc0:=of_decide_eq_true hc0
  have hz:Cu a.x b.x = -1:=if_pos (LN hc0)
  exact q4 (asg' O (OkL.nil (OkQ.then_ (OkC.ret (OkQ.then_ret (ret_one O (rd_tmp (v:=(vI (-1:Int))) O) (λw hw=>⟨by rw [hz],hw.out⟩)))))))
 ·replace hc0:=of_decide_eq_false hc0
  refine OkC.skip (q1 (q4 (AM O (AH (v:=(vN ((dg a.x).length))) (AD O underlying79) O (AM O (AH (v:=(vN ((dg b.x).length))) (AD O underlying79) O (AH (Bs (c:=(decide (((dg b.x).length)<((dg a.x).length)))) O O (CB (a:=(dg b.x).length) (b:=(dg a.x).length))) O (OkL.nil (OkQ.subF (sL [0,1,4,15] O) (OkQ.then_ ?_))))))))))
  refine OkC.cond O (λhc1=>?_) (λhc1=>?_)
  ·replace hc1:=of_decide_eq_true hc1
   have hz:Cu a.x b.x=1:=by
      have h9:=LN hc1
      unfold Cu;rw [if_neg Z,if_neg Z]
   exact q4 (asg' O (OkL.nil (OkQ.then_ (OkC.ret (OkQ.then_ret (ret_one O (rd_tmp (v:=(vI 1)) O) (λw hw=>⟨by rw [hz],hw.out⟩)))))))
  ·replace hc1:=of_decide_eq_false hc1
   refine OkC.skip (q1 (q4 (AM O (AH (v:=(vN ((dg a.x).length))) (AD O underlying79) O (AH (BI (c:=((((dg a.x).length:Nat):Int)-1)) O O (BE Z Z)) O (asg' O (OkL.nil (OkQ.subF (sL [0,1,4,5] O) (OkQ.then_ (OkC.block ?_))))))))))
   refine OkC.lp1 (tg λ(j:Nat)=>j<=(dg a.x).length/\(dg a.x).drop j=(dg b.x).drop j) (tg λ(j:Nat)=>[(0,(nV a)),(1,(nV b)),(5,(vI (((j:Nat):Int)-1)))]) (tg λ(j:Nat)=>[nA a,nA b]) (tg λ(j:Nat)=>j) ((dg a.x).length) (⟨Nat.le_refl _,by rw [List.drop_length,List.drop_of_length_le Z]⟩) (sF O) sr (λj hJ=>?_)
   obtain ⟨hm,hd⟩:=hJ
   have hl:(dg a.x).length=(dg b.x).length:=by omega
   refine OkC.seq (q4 (AM O (AH (Bx (c:=(decide ((0:Int)<=(((j:Nat):Int)-1)))) O O O) O (OkL.nil (OkQ.subF (sL [0,1,5,20] O) (OkQ.then_ ?_))))))
   refine OkC.cond O (λhc2=>?_) (λhc2=>?_)
   ·replace hc2:=of_decide_eq_true hc2
    have hdj:(dg a.x).drop (j-1+1)=(dg b.x).drop (j-1+1):=by rw [Nat.sub_add_cancel Z];exact hd
    refine OkC.retell (k:=5) (u:=(vN (j-1))) O (by show Value.int _ _=Value.int _ _;congr 1;omega) (OkC.skip (q1 (OkC.block (OkC.seq (OkC.seq (Cd [(0,true),(1,true),(2,true),(3,true),(4,true),(5,true),(6,true),(7,true),(8,true)] sr (BV O (BV O (Al (v:=(pP (pB a.p) (pO a.p+(j-1)*1))) O (AL (j:=j-1) O O a.ok underlying79 sizeOf3 O Z) (Al O (AW (v:=(vN ((dg a.x).getD (j-1) 0))) (i:=0) O O (a.ok.ne Z) BL (DO (ds:=dg a.x) (j:=j-1) Z)) (BV O ?_)))))))))))
    refine BV O (Al (v:=(pP (pB b.p) (pO b.p+(j-1)*1))) O (AL (j:=j-1) O O b.ok underlying79 sizeOf3 O Z) (Al O (AW (v:=(vN ((dg b.x).getD (j-1) 0))) (i:=1) O O (b.ok.ne Z) BL (DO (ds:=dg b.x) (j:=j-1) Z)) (Al O (Ae (c:=(decide (((dg a.x).getD (j-1) 0)<((dg b.x).getD (j-1) 0)))) O O (CB (a:=(dg a.x).getD (j-1) 0) (b:=(dg b.x).getD (j-1) 0))) (OkE.nil (OkQ.subF (sL [0,1,5,31] O) (OkQ.then_ ?_))))))
    refine OkC.cond O (λhc3=>?_) (λhc3=>?_)
    ·replace hc3:=of_decide_eq_true hc3
     have hz:Cu a.x b.x = -1:=if_pos (St hl Z hdj hc3)
     exact q4 (asg' O (OkL.nil (OkQ.then_ (OkC.ret (OkQ.then_ret (OkQ.in_ret (OkQ.then_ret (OkQ.round1_ret (OkQ.in_ret (OkQ.then_ret (ret_one O (rd_tmp (v:=(vI (-1:Int))) O) (λw hw=>⟨by rw [hz],hw.out⟩))))))))))))
    ·replace hc3:=of_decide_eq_false hc3
     refine OkC.skip (q1 (Cd [(0,true),(1,true),(2,true),(3,true),(4,true),(5,true),(6,true),(7,true),(8,true)] sr (BV O (BV O (Al (v:=(pP (pB a.p) (pO a.p+(j-1)*1))) O (AL (j:=j-1) O O a.ok underlying79 sizeOf3 O Z) (Al O (AW (v:=(vN ((dg a.x).getD (j-1) 0))) (i:=0) O O (a.ok.ne Z) BL (DO (ds:=dg a.x) (j:=j-1) Z)) (BV O (BV O (Al (v:=(pP (pB b.p) (pO b.p+(j-1)*1))) O (AL (j:=j-1) O O b.ok underlying79 sizeOf3 O Z) (Al O (AW (v:=(vN ((dg b.x).getD (j-1) 0))) (i:=1) O O (b.ok.ne Z) BL (DO (ds:=dg b.x) (j:=j-1) Z)) (Al O (Bs (c:=(decide (((dg b.x).getD (j-1) 0)<((dg a.x).getD (j-1) 0)))) O O (CB (a:=(dg b.x).getD (j-1) 0) (b:=(dg a.x).getD (j-1) 0))) ?_)))))))))))
     refine OkE.nil (OkQ.subF (sL [0,1,5,40] O) (OkQ.then_ ?_))
     refine OkC.cond O (λhc4=>?_) (λhc4=>?_)
     ·replace hc4:=of_decide_eq_true hc4
      have hz:Cu a.x b.x=1:=by
        have h9:=St hl.symm Z hdj.symm hc4
        unfold Cu;rw [if_neg Z,if_neg Z]
      exact q4 (asg' O (OkL.nil (OkQ.then_ (OkC.ret (OkQ.in_ret (OkQ.then_ret (OkQ.round1_ret (OkQ.in_ret (OkQ.then_ret (ret_one O (rd_tmp (v:=(vI 1)) O) (λw hw=>⟨by rw [hz],hw.out⟩)))))))))))
     ·replace hc4:=of_decide_eq_false hc4
      exact OkC.skip (OkQ.in_normal (OkQ.then_ (OkC.region (AM O (AH (BI (c:=(((j-1:Nat):Int)-1)) O O (BE Z Z)) O (asg' O (OkL.nil (OkQ.subF (sL [0,1,5] O) (OkQ.round1 (j-1) (⟨Z,M1 hl Z hdj Z⟩) Z (sF O) sr)))))))))
   ·replace hc2:=of_decide_eq_false hc2
    obtain rfl:j=0:=by omega
    have hz:Cu a.x b.x=0:=MY.2 (YL hd)
    exact OkC.exit (OkQ.then_exit (OkQ.round1_exit (OkQ.in_exit (q2 (asg' O (OkL.nil (OkQ.then_ (OkC.ret (ret_one O (rd_tmp (v:=(vI 0)) O) (λw hw=>⟨by rw [hz],hw.out⟩))))))))))
end
end Go.Proofs.YtpolhpjiahbidaaGreatDoor
