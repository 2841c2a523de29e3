import Derived.Test.YtpolhpjiahbidaaGreatDoorPart05
import Derived.Test.YtpolhpjiahbidaaGreatDoorPart06
import Derived.Test.YtpolhpjiahbidaaGreatDoorPart07
import Derived.Test.YtpolhpjiahbidaaGreatDoorPart08
import Derived.Test.YtpolhpjiahbidaaGreatDoorPart10
import Derived.Test.YtpolhpjiahbidaaGreatDoorPart18
namespace Go.Proofs.YtpolhpjiahbidaaGreatDoor
open Go Go.RowKit Go.Proofs.Tryz
set_option linter.unusedVariables false
set_option linter.unusedSimpArgs false
section
set_option maxRecDepth 100000
theorem Sx:ElemT Tryz.prog 79 3 1 8:=⟨Tryz.underlying79,Da (by kernel_rfl)⟩
theorem F8 (p:Option Addr) (c:Nat) (ds:List Nat) (hd:IB ds) (ho:Ak p ds.length c) (hl:ds.length<=1099511627776) (w:World) (h:Holds w (AF p (dgL ds))):Calls Tryz.prog 213 #[(Value.slice p ds.length c)] w (Ai w (Value.slice p ((dg (val10 ds)).length) c)):=by
 refine Aa (args:=[(Value.slice p ds.length c)]) (L:=[AF p (dgL ds)]) Tryz.func213 rfl rfl (AK rfl) (Bs rfl h (Al)) (OkC.subF (sL [0] rfl) (q4 (asg' rfl (OkL.nil (q1 (OkC.block ?_))))))
 refine OkC.lp1 (tg λ(k:Nat)=>k<=ds.length/\val10 (ds.take k)=val10 ds) (tg λ(k:Nat)=>[(2,(Value.slice none 0 0)),(0,(Value.slice p k c))]) (tg λ(k:Nat)=>[AF p (dgL ds)]) (tg λ(k:Nat)=>k) ds.length (⟨Nat.le_refl _,by rw [List.take_length]⟩) (sF rfl) sr (λk hJ=>?_)
 obtain ⟨hk,hv⟩:=hJ
 have hok:Ak p k c:=⟨λe=>⟨by have:=(ho.nil e).1;omega,(ho.nil e).2⟩,ho.spot,Nat.le_trans hk ho.le⟩
 have hkc:=hok.le
 refine OkC.seq (q4 (AO rfl (AG (v:=(vN k)) (AD rfl Tryz.underlying79) rfl (AG (B6 (c:=(decide (0<k))) rfl rfl (B9 (a:=0) (b:=k))) rfl (AO rfl ?_)))))
 refine OkL.mid (FM:=[(2,(Value.slice none 0 0)),(0,(Value.slice p k c)),(3,(Value.slice p k c)),(4,(vN k)),(5,(Value.bool (decide (0<k)))),(6,(Value.bool (decide (0<k)))),(14,(Value.bool ((decide (0<k))&&(decide ((ds.getD (k-1) 0)=0)))))]) (LM:=[AF p (dgL ds)]) 8 ?_ ?_
 ·rcases Bool.eq_false_or_eq_true (decide (0<k)) with hg1|hg1
  ·skip
   refine OkL.retell (k:=6) (u:=Value.bool true) rfl (by rw [hg1]) ?_
   have hg1':=hg1
   replace hg1':=of_decide_eq_true hg1'
   exact OkL.step (v:=(Value.slice p k c)) (AB rfl) (Ac rfl) rfl (AK rfl) (OkL.step (v:=(Value.slice p k c)) (AB rfl) (Ac rfl) rfl (AK rfl) (OkL.step (v:=(vN k)) (AB rfl) (AD rfl Tryz.underlying79) rfl (AK rfl) (OkL.step (v:=(vN (k-1))) (AB rfl) (BJ (c:=((k-1:Nat):Int)) rfl rfl (Bt (a:=k) (b:=1) (by omega) (by omega))) rfl (AK rfl) (OkL.step (v:=(pP (pB p) (pO p+(k-1)*1))) (AB rfl) (AI (j:=k-1) rfl rfl hok Tryz.underlying79 Tryz.sizeOf3 rfl (by omega)) rfl (AK rfl) (OkL.step (v:=(vN (ds.getD (k-1) 0))) (AB rfl) (AQ (v:=(vN (ds.getD (k-1) 0))) (i:=0) rfl rfl (hok.ne (by omega)) BH (DD (ds:=ds) (j:=k-1) (by omega))) rfl (AK rfl) (OkL.step (v:=(Value.bool (decide ((ds.getD (k-1) 0)=0)))) (AB rfl) (BE (c:=(decide ((ds.getD (k-1) 0)=0))) rfl rfl (L5 (a:=ds.getD (k-1) 0) (b:=0))) rfl (AK rfl) (AG (v:=(Value.bool (decide ((ds.getD (k-1) 0)=0)))) (AN rfl rfl) rfl (OkL.nil (OkQ.mid (sS rfl (sS rfl (sS rfl (sS rfl (sS rfl (sS (by first|rfl|(rw [hg1];rfl)|rw [hg1]) (sS (by first|rfl|(rw [hg1];rfl)|rw [hg1]) (sN)))))))) (List.Sublist.refl _))))))))))
  ·skip
   refine OkL.retell (k:=6) (u:=Value.bool false) rfl (by rw [hg1]) ?_
   have hg1':=hg1
   replace hg1':=of_decide_eq_false hg1'
   exact OkL.skip (AC rfl) rfl (AK rfl) (OkL.skip (AC rfl) rfl (AK rfl) (OkL.skip (AC rfl) rfl (AK rfl) (OkL.skip (AC rfl) rfl (AK rfl) (OkL.skip (AC rfl) rfl (AK rfl) (OkL.skip (AC rfl) rfl (AK rfl) (OkL.skip (AC rfl) rfl (AK rfl) (AG (v:=(Value.bool false)) (AJ rfl rfl) rfl (OkL.nil (OkQ.mid (sS rfl (sS rfl (sS rfl (sS rfl (sS rfl (sS (by first|rfl|(rw [hg1];rfl)|rw [hg1]) (sS (by first|rfl|(rw [hg1];rfl)|rw [hg1]) (sN)))))))) (List.Sublist.refl _))))))))))
 refine OkL.nil (OkQ.subF (sL [2,0,14] rfl) (OkQ.then_ ?_))
 refine OkC.cond rfl (λhc0=>?_) (λhc0=>?_)
 ·simp only [Bool.and_eq_true,Bool.or_eq_true,Bool.and_eq_false_iff,Bool.or_eq_false_iff,Bool.not_eq_true',Bool.not_eq_false',decide_eq_true_eq,decide_eq_false_iff_not] at hc0
  refine OkC.skip (OkQ.then_ (OkC.block (OkC.region (AO rfl (AO rfl (AG (v:=(vN k)) (AD rfl Tryz.underlying79) rfl (AG (BJ (c:=((k-1:Nat):Int)) rfl rfl (Bt (a:=k) (b:=1) (by omega) (by omega))) rfl (AG (v:=(Value.slice p (k-1) c)) (F0 (m:=k-1) rfl rfl Tryz.underlying79 Tryz.sizeOf3 (by omega)) rfl (asg' rfl (OkL.nil (OkQ.subF (sL [2,0] rfl) ?_)))))))))))
  exact OkQ.in_normal (OkQ.round1 (k-1) (⟨by omega,by rw [J9 (by omega) hc0.2,Nat.sub_add_cancel hc0.1,hv]⟩) (by omega) (sF rfl) sr)
 ·simp only [Bool.and_eq_true,Bool.or_eq_true,Bool.and_eq_false_iff,Bool.or_eq_false_iff,Bool.not_eq_true',Bool.not_eq_false',decide_eq_true_eq,decide_eq_false_iff_not] at hc0
  have htl:=Q_ hd hk hv (hc0.imp (λh=>by omega) id)
  exact OkC.exit (OkQ.then_exit (OkQ.round1_exit (OkQ.in_exit (q2 (AO rfl (asg' rfl (OkL.nil (OkQ.subF (sL [2,0] rfl) (OkQ.then_ (OkC.ret (ret_one rfl (rd_tmp (v:=(Value.slice p k c)) rfl) (λw hw=>⟨by rw [<-htl],hw.out⟩))))))))))))
theorem LR (a:NV) (i:Nat) (hi:i<=1099511627776) (w:World) (ha:Holds w (nA a)):Calls Tryz.prog 212 #[(nV a),(vN i)] w (Ai w (vN ((dg a.x).getD i 0))):=by
 refine Aa (args:=[(nV a),(vN i)]) (L:=[nA a]) Tryz.func212 rfl rfl (AK rfl) (Bs rfl ha (Al)) (OkC.subF (sL [0,1] rfl) (q4 (asg' rfl (OkL.nil (q1 (q4 (AO rfl (AO rfl (AG (v:=(vN ((dg a.x).length))) (AD rfl Tryz.underlying79) rfl (AG (Af (c:=(decide (i<((dg a.x).length)))) rfl rfl (B9 (a:=i) (b:=(dg a.x).length))) rfl (OkL.nil ?_)))))))))))
 refine OkQ.subF (sL [0,1,4,8] rfl) (OkQ.then_ ?_)
 refine OkC.cond rfl (λhc0=>?_) (λhc0=>?_)
 ·replace hc0:=of_decide_eq_true hc0
  exact q4 (AO rfl (AO rfl (AG (v:=(pP (pB a.p) (pO a.p+i*1))) (AI (j:=i) rfl rfl a.ok Tryz.underlying79 Tryz.sizeOf3 rfl (by omega)) rfl (AG (AQ (v:=(vN ((dg a.x).getD i 0))) (i:=0) rfl rfl (a.ok.ne (by omega)) BH (DD (ds:=dg a.x) (j:=i) (by omega))) rfl (asg' rfl (OkL.nil (OkQ.subF (sL [0,1,4] rfl) (OkQ.then_ (OkC.ret (OkQ.then_ret (ret_one rfl (rd_tmp (v:=(vN ((dg a.x).getD i 0))) rfl) (λw hw=>⟨rfl,hw.out⟩))))))))))))
 ·replace hc0:=of_decide_eq_false hc0
  have hg:=DK hc0
  exact OkC.skip (q2 (asg' rfl (OkL.nil (OkQ.then_ (OkC.ret (ret_one rfl (rd_tmp (v:=(vI 0)) rfl) (λw hw=>⟨by rw [hg];rfl,hw.out⟩)))))))
theorem Ng (x:Nat) (hx:x<18446744073709551616) (w:World)  :Calls Tryz.prog 207 #[(vK .u64 x)] w (F7 w [] x):=by
 have hlen:(dg x).length<=5:=FR (by omega)
 refine AZ (args:=[(vK .u64 x)]) Tryz.func207 rfl rfl (AK rfl) (OkC.subF (sL [0] rfl) (q4 (asg' rfl (OkL.nil (q2 (asg' rfl (OkL.nilRow 3 1 (OkL.nil (q1 (OkC.block ?_))))))))))
 refine OkC.lp5 (tg λ(y:Nat) (p:Option Addr) (c:Nat) (k:Nat) (ds:List Nat)=>dg x=ds++dg y/\k=ds.length/\OwnOk p k c/\y<=x) (tg λ(y:Nat) (p:Option Addr) (c:Nat) (k:Nat) (ds:List Nat)=>[(2,(Value.slice none 0 0)),(0,(vK .u64 y)),(3,(Value.slice p k c))]) (tg λ(y:Nat) (p:Option Addr) (c:Nat) (k:Nat) (ds:List Nat)=>[rowW p 3 1 k c (dgL ds)]) (tg λ(y:Nat) (p:Option Addr) (c:Nat) (k:Nat) (ds:List Nat)=>y) x none 0 0 ([]) (⟨rfl,rfl,OwnOk.none,Nat.le_refl _⟩) (sF rfl) sr (λy p c k ds hJ=>?_)
 obtain ⟨hd,hk,ho,hy⟩:=hJ
 have hkl:k<=5:=by have:=congrArg List.length hd;rw [List.length_append] at this;omega
 refine OkC.seq (q4 (AO rfl (AG (B6 (c:=(decide (0<y))) rfl rfl (B9 (a:=0) (b:=y))) rfl (OkL.nil (OkQ.subF (sL [2,0,3,5] rfl) (OkQ.then_ ?_))))))
 refine OkC.cond rfl (λhc0=>?_) (λhc0=>?_)
 ·replace hc0:=of_decide_eq_true hc0
  refine OkC.skip (OkQ.then_ (OkC.block (q4 (AO rfl (AO rfl (AG (De (c:=((y%10000:Nat):Int)) rfl rfl (by omega) (Nu (a:=y) (b:=10000))) rfl (AG (Ar (c:=((y%10000:Nat):Int)) rfl Tryz.underlying69 Tryz.underlying3 (EJ (by omega))) rfl (OkL.openV (V:=λb1=>(Value.slice (some ⟨b1,0,none⟩) 1 1)) (T:=3) (cs:=[(vN (y%10000))]) (AP rfl) (Av (cs:=[(vN (y%10000))]) (pv:=[(0,(vN (y%10000)))]) Tryz.underlying79 Tryz.sizeOf3 Tryz.zeroValue3 (by decide) (by decide) rfl (by kernel_rfl)) rfl (AK rfl) λb1=>OkL.append1 (j:=0) (cs2:=dgL (ds++[y%10000])) Sx rfl ho (by simp [B3];omega) rfl rfl rfl rfl (by decide) (HL (by omega)) (by omega) (by rw [EQ];rfl) rfl λp_1 c_1 ho_1 hne_1=>asg' rfl (OkL.nil ?_)))))))))
  exact OkQ.subF (sL [2,0,3] rfl) (OkQ.then_ (OkC.region (AO rfl (AG (EP (c:=((y/10000:Nat):Int)) rfl rfl (by omega) (G9 (a:=y) (b:=10000) (by omega))) rfl (asg' rfl (OkL.nil (OkQ.subF (sL [2,0,3] rfl) (OkQ.in_normal (OkQ.round5 (y/10000) p_1 c_1 (k+1) (ds++[y%10000]) (⟨by rw [hd,Eq (by omega),List.append_assoc];rfl,by simp [hk],ho_1,by omega⟩) (by omega) (sF rfl) (sl sr))))))))))
 ·replace hc0:=of_decide_eq_false hc0
  refine OkC.exit (OkQ.then_exit (OkQ.round5_exit (OkQ.in_exit (q2 (AO rfl (asg' rfl (OkL.nil (OkQ.subF (sL [2,0,3] rfl) (OkQ.then_ (OkC.ret ?_))))))))))
  obtain rfl:y=0:=by omega
  rw [Ep,List.append_nil] at hd
  exact ret_one rfl (rd_tmp (v:=(Value.slice p k c)) rfl) (λw hw=>TV hw (i:=0) rfl ho hk (by rw [hd,List.take_length]) (by rw [hd,<-hk]))
end
section
set_option maxRecDepth 100000
theorem Va (a b:NV) (hla:(dg a.x).length<=549755813888) (hlb:(dg b.x).length<=549755813888) (w:World) (ha:Holds w (nA a)) (hb:Holds w (nA b)):Calls Tryz.prog 198 #[(nV a),(nV b)] w (F7 w [] (a.x+b.x)):=by
 refine Aa (args:=[(nV a),(nV b)]) (L:=[nA a,nA b]) Tryz.func198 rfl rfl (AK rfl) (Bs rfl ha (Bs rfl hb (Al))) (OkC.subF (sL [0,1] rfl) (q4 (asg' rfl (OkL.nil (q2 (asg' rfl (OkL.nilRow 3 1 (OkL.nil (q2 (asg' rfl (OkL.nil ?_)))))))))))
 refine q1 (q4 (asg' rfl (OkL.nil (OkQ.then_ (OkC.block ?_)))))
 refine OkC.lp5 (tg λ(i:Nat) (cy:Nat) (p:Option Addr) (c:Nat) (ds:List Nat)=>IB ds/\i=ds.length/\OwnOk p i c/\cy<=1/\val10 ds+10000^i*cy=val10 ((dg a.x).take i)+val10 ((dg b.x).take i)/\(i<=max (dg a.x).length (dg b.x).length\/i<=max (dg a.x).length (dg b.x).length+1/\cy=0)) (tg λ(i:Nat) (cy:Nat) (p:Option Addr) (c:Nat) (ds:List Nat)=>[(0,(nV a)),(1,(nV b)),(4,(Value.slice none 0 0)),(6,(vN cy)),(7,(vN i)),(5,(Value.slice p i c))]) (tg λ(i:Nat) (cy:Nat) (p:Option Addr) (c:Nat) (ds:List Nat)=>[rowW p 3 1 i c (dgL ds),nA a,nA b]) (tg λ(i:Nat) (cy:Nat) (p:Option Addr) (c:Nat) (ds:List Nat)=>max (dg a.x).length (dg b.x).length+2-i) 0 0 none 0 ([]) (⟨Ov,rfl,OwnOk.none,by omega,rfl,.inl (by omega)⟩) (sF rfl) sr (λi cy p c ds hJ=>?_)
 obtain ⟨hdd,hk,ho,hcy,hv,hm⟩:=hJ
 have ga:=Fl a.x i
 have gb:=Fl b.x i
 refine OkC.seq (q4 (AO rfl (AO rfl (AG (v:=(vN ((dg a.x).length))) (AD rfl Tryz.underlying79) rfl (AG (Af (c:=(decide (i<((dg a.x).length)))) rfl rfl (B9 (a:=i) (b:=(dg a.x).length))) rfl (AO rfl ?_))))))
 refine OkL.mid (FM:=[(0,(nV a)),(1,(nV b)),(4,(Value.slice none 0 0)),(6,(vN cy)),(7,(vN i)),(5,(Value.slice p i c)),(9,(vN i)),(10,(nV a)),(11,(vN ((dg a.x).length))),(12,(Value.bool (decide (i<((dg a.x).length))))),(13,(Value.bool (decide (i<((dg a.x).length))))),(18,(Value.bool ((decide (i<((dg a.x).length)))||(decide (i<((dg b.x).length))))))]) (LM:=[rowW p 3 1 i c (dgL ds),nA a,nA b]) 5 ?_ ?_
 ·rcases Bool.eq_false_or_eq_true (decide (i<((dg a.x).length))) with hg1|hg1
  ·skip
   refine OkL.retell (k:=13) (u:=Value.bool true) rfl (by rw [hg1]) ?_
   have hg1':=hg1
   replace hg1':=of_decide_eq_true hg1'
   exact OkL.skip (AC rfl) rfl (AK rfl) (OkL.skip (AC rfl) rfl (AK rfl) (OkL.skip (AC rfl) rfl (AK rfl) (OkL.skip (AC rfl) rfl (AK rfl) (AG (v:=(Value.bool true)) (AN rfl rfl) rfl (OkL.nil (OkQ.mid (sS rfl (sS rfl (sS rfl (sS rfl (sS rfl (sS rfl (sS rfl (sS rfl (sS rfl (sS rfl (sS (by first|rfl|(rw [hg1];rfl)|rw [hg1]) (sS (by first|rfl|(rw [hg1];rfl)|rw [hg1]) (sN))))))))))))) (List.Sublist.refl _)))))))
  ·skip
   refine OkL.retell (k:=13) (u:=Value.bool false) rfl (by rw [hg1]) ?_
   have hg1':=hg1
   replace hg1':=of_decide_eq_false hg1'
   exact OkL.step (v:=(vN i)) (AB rfl) (Ac rfl) rfl (AK rfl) (OkL.step (v:=(nV b)) (AB rfl) (Ac rfl) rfl (AK rfl) (OkL.step (v:=(vN ((dg b.x).length))) (AB rfl) (AD rfl Tryz.underlying79) rfl (AK rfl) (OkL.step (v:=(Value.bool (decide (i<((dg b.x).length))))) (AB rfl) (Af (c:=(decide (i<((dg b.x).length)))) rfl rfl (B9 (a:=i) (b:=(dg b.x).length))) rfl (AK rfl) (AG (v:=(Value.bool (decide (i<((dg b.x).length))))) (AJ rfl rfl) rfl (OkL.nil (OkQ.mid (sS rfl (sS rfl (sS rfl (sS rfl (sS rfl (sS rfl (sS rfl (sS rfl (sS rfl (sS rfl (sS (by first|rfl|(rw [hg1];rfl)|rw [hg1]) (sS (by first|rfl|(rw [hg1];rfl)|rw [hg1]) (sN))))))))))))) (List.Sublist.refl _)))))))
 refine AO rfl ?_
 refine OkL.mid (FM:=[(0,(nV a)),(1,(nV b)),(4,(Value.slice none 0 0)),(6,(vN cy)),(7,(vN i)),(5,(Value.slice p i c)),(9,(vN i)),(10,(nV a)),(11,(vN ((dg a.x).length))),(12,(Value.bool (decide (i<((dg a.x).length))))),(13,(Value.bool (decide (i<((dg a.x).length))))),(18,(Value.bool ((decide (i<((dg a.x).length)))||(decide (i<((dg b.x).length)))))),(19,(Value.bool ((decide (i<((dg a.x).length)))||(decide (i<((dg b.x).length)))))),(22,(Value.bool (((decide (i<((dg a.x).length)))||(decide (i<((dg b.x).length))))||(decide (0<cy)))))]) (LM:=[rowW p 3 1 i c (dgL ds),nA a,nA b]) 3 ?_ ?_
 ·rcases Bool.eq_false_or_eq_true ((decide (i<((dg a.x).length)))||(decide (i<((dg b.x).length)))) with hg2|hg2
  ·skip
   refine OkL.retell (k:=19) (u:=Value.bool true) rfl (by rw [hg2]) ?_
   have hg2':=hg2
   simp only [Bool.and_eq_true,Bool.or_eq_true,Bool.and_eq_false_iff,Bool.or_eq_false_iff,Bool.not_eq_true',Bool.not_eq_false',decide_eq_true_eq,decide_eq_false_iff_not] at hg2'
   exact OkL.skip (AC rfl) rfl (AK rfl) (OkL.skip (AC rfl) rfl (AK rfl) (AG (v:=(Value.bool true)) (AN rfl rfl) rfl (OkL.nil (OkQ.mid (sS rfl (sS rfl (sS rfl (sS rfl (sS rfl (sS rfl (sS rfl (sS rfl (sS rfl (sS rfl (sS rfl (sS rfl (sS (by first|rfl|(rw [hg2];rfl)|rw [hg2]) (sS (by first|rfl|(rw [hg2];rfl)|rw [hg2]) (sN))))))))))))))) (List.Sublist.refl _)))))
  ·skip
   refine OkL.retell (k:=19) (u:=Value.bool false) rfl (by rw [hg2]) ?_
   have hg2':=hg2
   simp only [Bool.and_eq_true,Bool.or_eq_true,Bool.and_eq_false_iff,Bool.or_eq_false_iff,Bool.not_eq_true',Bool.not_eq_false',decide_eq_true_eq,decide_eq_false_iff_not] at hg2'
   exact OkL.step (v:=(vN cy)) (AB rfl) (Ac rfl) rfl (AK rfl) (OkL.step (v:=(Value.bool (decide (0<cy)))) (AB rfl) (B6 (c:=(decide (0<cy))) rfl rfl (B9 (a:=0) (b:=cy))) rfl (AK rfl) (AG (v:=(Value.bool (decide (0<cy)))) (AJ rfl rfl) rfl (OkL.nil (OkQ.mid (sS rfl (sS rfl (sS rfl (sS rfl (sS rfl (sS rfl (sS rfl (sS rfl (sS rfl (sS rfl (sS rfl (sS rfl (sS (by first|rfl|(rw [hg2];rfl)|rw [hg2]) (sS (by first|rfl|(rw [hg2];rfl)|rw [hg2]) (sN))))))))))))))) (List.Sublist.refl _)))))
 refine OkL.nil (OkQ.subF (sL [0,1,4,6,7,5,22] rfl) (OkQ.then_ ?_))
 refine OkC.cond rfl (λhc0=>?_) (λhc0=>?_)
 ·simp only [Bool.and_eq_true,Bool.or_eq_true,Bool.and_eq_false_iff,Bool.or_eq_false_iff,Bool.not_eq_true',Bool.not_eq_false',decide_eq_true_eq,decide_eq_false_iff_not] at hc0
  refine OkC.skip (q1 (OkC.block (q4 (AO rfl (AO rfl ?_)))))
  have hz1:=Fl a.x i
  refine Cq Tryz.call212 (λw hw=>LR a i (by omega) w (hw.holds (i:=1) rfl)) rfl (AO rfl (AO rfl ?_))
  have hz2:=Fl b.x i
  refine Cq Tryz.call212 (λw hw=>LR b i (by omega) w (hw.holds (i:=2) rfl)) rfl (AG (AY (c:=((((dg a.x).getD i 0)+((dg b.x).getD i 0):Nat):Int)) rfl rfl (AT (a:=(dg a.x).getD i 0) (b:=(dg b.x).getD i 0) (by omega))) rfl (AO rfl (AG (AY (c:=(((((dg a.x).getD i 0)+((dg b.x).getD i 0))+cy:Nat):Int)) rfl rfl (AT (a:=((dg a.x).getD i 0)+((dg b.x).getD i 0)) (b:=cy) (by omega))) rfl (asg' rfl (q3 (sL [0,1,4,6,7,5,8] rfl) (AO rfl (AO rfl (AG (De (c:=((((((dg a.x).getD i 0)+((dg b.x).getD i 0))+cy)%10000:Nat):Int)) rfl rfl (by omega) (Nu (a:=(((dg a.x).getD i 0)+((dg b.x).getD i 0))+cy) (b:=10000))) rfl (OkL.openV (V:=λb1=>(Value.slice (some ⟨b1,0,none⟩) 1 1)) (T:=3) (cs:=[(vN (((((dg a.x).getD i 0)+((dg b.x).getD i 0))+cy)%10000))]) (AP rfl) (Av (cs:=[(vN (((((dg a.x).getD i 0)+((dg b.x).getD i 0))+cy)%10000))]) (pv:=[(0,(vN (((((dg a.x).getD i 0)+((dg b.x).getD i 0))+cy)%10000)))]) Tryz.underlying79 Tryz.sizeOf3 Tryz.zeroValue3 (by decide) (by decide) rfl (by kernel_rfl)) rfl (AK rfl) λb1=>OkL.append1 (j:=0) (cs2:=dgL (ds++[((((dg a.x).getD i 0)+((dg b.x).getD i 0))+cy)%10000])) Sx rfl ho (by simp [B3];omega) rfl rfl rfl rfl (by decide) (HL (by omega)) (by omega) (by rw [EQ];rfl) rfl λp_1 c_1 ho_1 hne_1=>asg' rfl ?_)))))))))
  refine OkL.nil (OkQ.subF (sL [0,1,4,6,7,5,8] rfl) (OkQ.then_ (OkC.region (AO rfl (AG (EP (c:=((((((dg a.x).getD i 0)+((dg b.x).getD i 0))+cy)/10000:Nat):Int)) rfl rfl (by omega) (Ed (a:=(((dg a.x).getD i 0)+((dg b.x).getD i 0))+cy) (b:=10000) (by omega))) rfl (asg' rfl (OkL.nil (OkQ.subF (sL [0,1,4,6,7,5,8] rfl) (OkQ.in_normal (OkQ.then_ (OkC.region ?_)))))))))))
  refine AO rfl (AG (AY (c:=((i+1:Nat):Int)) rfl rfl (AT (a:=i) (b:=1) (by omega))) rfl (asg' rfl (OkL.nil (OkQ.subF (sL [0,1,4,6,7,5,8] rfl) ?_))))
  have hnx:i+1<=max (dg a.x).length (dg b.x).length\/i+1<=max (dg a.x).length (dg b.x).length+1/\((dg a.x).getD i 0+(dg b.x).getD i 0+cy)/10000=0:=by
            by_cases hi:i<max (dg a.x).length (dg b.x).length
            ·exact .inl (by omega)
            ·refine .inr ⟨by omega,?_⟩
             rw [DK (show ¬i<(dg a.x).length by omega),DK (show ¬i<(dg b.x).length by omega)]
             omega
  exact OkQ.round5 (i+1) (((dg a.x).getD i 0+(dg b.x).getD i 0+cy)/10000) p_1 c_1 (ds++[((dg a.x).getD i 0+(dg b.x).getD i 0+cy)%10000]) (⟨M1 hdd (by omega),by simp [hk],ho_1,by omega,by rw [Bm,Bm];exact Tr hk hv rfl,hnx⟩) (by omega) (sF rfl) (sl sr)
 ·simp only [Bool.and_eq_true,Bool.or_eq_true,Bool.and_eq_false_iff,Bool.or_eq_false_iff,Bool.not_eq_true',Bool.not_eq_false',decide_eq_true_eq,decide_eq_false_iff_not] at hc0
  have hfin:val10 ds=a.x+b.x:=by rw [CZ (by omega),CZ (by omega),CF,CF,show cy=0 by omega] at hv;simpa using hv
  exact OkC.exit (OkQ.then_exit (OkQ.round5_exit (OkQ.in_exit (q2 (AO rfl (Cq (args:=[(Value.slice p i c)]) (v:=(Value.slice p ((dg (val10 ds)).length) c)) Tryz.call213 (λw hw=>(by have h9:=F8 p c ds hdd (by rw [<-hk];exact ho.row) (by omega) w (I0 (hw.holds (i:=0) rfl) ho hk);rw [<-hk] at h9;exact h9)) rfl (asg' rfl (OkL.nil (OkQ.subF (sL [0,1,4,6,7,5] rfl) (OkQ.then_ (OkC.ret (ret_one rfl (rd_tmp (v:=(Value.slice p ((dg (val10 ds)).length) c)) rfl) (λw hw=>TV hw (i:=0) rfl ho hk (by rw [<-hfin];exact E9 hdd) (by rw [hfin]))))))))))))))
theorem Po (a b:NV) (hab:b.x<=a.x) (hla:(dg a.x).length<=549755813888) (w:World) (ha:Holds w (nA a)) (hb:Holds w (nA b)):Calls Tryz.prog 210 #[(nV a),(nV b)] w (F7 w [] (a.x-b.x)):=by
 have hlb:=G8 hab
 refine Aa (args:=[(nV a),(nV b)]) (L:=[nA a,nA b]) Tryz.func210 rfl rfl (AK rfl) (Bs rfl ha (Bs rfl hb (Al))) (OkC.subF (sL [0,1] rfl) (q4 (asg' rfl (OkL.nil (q2 (asg' rfl (OkL.nilRow 3 1 (OkL.nil (q2 (asg' rfl (OkL.nil ?_)))))))))))
 refine q1 (q4 (asg' rfl (OkL.nil (OkQ.then_ (OkC.block ?_)))))
 refine OkC.lp5 (tg λ(i:Nat) (ld:Nat) (p:Option Addr) (c:Nat) (ds:List Nat)=>IB ds/\i=ds.length/\OwnOk p i c/\ld<=1/\val10 ds+val10 ((dg b.x).take i)=val10 ((dg a.x).take i)+10000^i*ld/\i<=(dg a.x).length) (tg λ(i:Nat) (ld:Nat) (p:Option Addr) (c:Nat) (ds:List Nat)=>[(0,(nV a)),(1,(nV b)),(4,(Value.slice none 0 0)),(6,(vN ld)),(7,(vN i)),(5,(Value.slice p i c))]) (tg λ(i:Nat) (ld:Nat) (p:Option Addr) (c:Nat) (ds:List Nat)=>[rowW p 3 1 i c (dgL ds),nA a,nA b]) (tg λ(i:Nat) (ld:Nat) (p:Option Addr) (c:Nat) (ds:List Nat)=>(dg a.x).length-i) 0 0 none 0 ([]) (⟨Ov,rfl,OwnOk.none,by omega,rfl,by omega⟩) (sF rfl) sr (λi ld p c ds hJ=>?_)
 obtain ⟨hdd,hk,ho,hcy,hv,hm⟩:=hJ
 have ga:=Fl a.x i
 have gb:=Fl b.x i
 refine OkC.seq (q4 (AO rfl (AO rfl (AG (v:=(vN ((dg a.x).length))) (AD rfl Tryz.underlying79) rfl (AG (Af (c:=(decide (i<((dg a.x).length)))) rfl rfl (B9 (a:=i) (b:=(dg a.x).length))) rfl (OkL.nil (OkQ.subF (sL [0,1,4,6,7,5,12] rfl) (OkQ.then_ ?_))))))))
 refine OkC.cond rfl (λhc0=>?_) (λhc0=>?_)
 ·replace hc0:=of_decide_eq_true hc0
  refine OkC.skip (q1 (OkC.block (OkC.seq (CV [(0,true),(1,true),(2,true),(3,true),(4,true),(5,true),(8,true),(6,false),(7,true),(9,true),(10,true)] sr (BN rfl (BN rfl (Ag (v:=(pP (pB a.p) (pO a.p+i*1))) rfl (AI (j:=i) rfl rfl a.ok Tryz.underlying79 Tryz.sizeOf3 rfl (by omega)) (Ag rfl (AQ (v:=(vN ((dg a.x).getD i 0))) (i:=1) rfl rfl (a.ok.ne (by omega)) BH (DD (ds:=dg a.x) (j:=i) (by omega))) (BN rfl (BN rfl (BN rfl ?_)))))))))))
  refine OkE.imp rfl ?_
  have hz1:=Fl b.x i
  refine Cq Tryz.call212 (λw hw=>LR b i (by omega) w (hw.holds (i:=2) rfl)) rfl (OkE.back sr (Ag rfl (BJ (c:=((((dg a.x).getD i 0:Nat):Int)-(((dg b.x).getD i 0:Nat):Int))) rfl rfl (BD (by omega) (by omega))) (Ag rfl (BJ (c:=((((dg a.x).getD i 0:Nat):Int)-(((dg b.x).getD i 0:Nat):Int)-(ld:Int))) rfl rfl (BD (by omega) (by omega))) (pS' rfl (OkE.nil (OkQ.subF (sL [0,1,4,6,7,5,8] rfl) (q2 (asg' rfl (OkL.nil (q1 (q4 ?_)))))))))))
  refine AO rfl (AG (Af (c:=(decide (((((dg a.x).getD i 0:Nat):Int)-(((dg b.x).getD i 0:Nat):Int)-(ld:Int))<(0:Int)))) rfl rfl rfl) rfl (OkL.nil (OkQ.subF (sL [0,1,4,6,7,5,8,26] rfl) (OkQ.then_ ?_))))
  refine OkC.jn2 (tg λ(d:Nat) (ld2:Nat)=>d<10000/\ld2<=1/\d+(dg b.x).getD i 0+ld=(dg a.x).getD i 0+10000*ld2) (tg λ(d:Nat) (ld2:Nat)=>[(0,(nV a)),(1,(nV b)),(4,(Value.slice none 0 0)),(7,(vN i)),(5,(Value.slice p i c)),(8,(vN d)),(6,(vN ld2))]) (tg λ(d:Nat) (ld2:Nat)=>[rowW p 3 1 i c (dgL ds),nA a,nA b]) ?_ ?_
  ·skip
   refine OkC.cond rfl (λhc1=>?_) (λhc1=>?_)
   ·replace hc1:=of_decide_eq_true hc1
    exact q4 (AO rfl (AG (AY (c:=(((dg a.x).getD i 0+10000-(dg b.x).getD i 0-ld:Nat):Int)) rfl rfl (by rw [BD (by omega) (by omega)];omega)) rfl (asg' rfl (OkL.nil (OkQ.subF (sL [0,1,4,6,7,5,8] rfl) (OkQ.then_ (OkC.region (asg' rfl (OkL.nil (OkQ.join2 ((dg a.x).getD i 0+10000-(dg b.x).getD i 0-ld) 1 (⟨by omega,by omega,by omega⟩) (sF rfl) sr))))))))))
   ·replace hc1:=of_decide_eq_false hc1
    exact OkC.retell (k:=8) (u:=(vN ((dg a.x).getD i 0-(dg b.x).getD i 0-ld))) rfl (by show Value.int _ _=Value.int _ _;congr 1;omega) (OkC.skip (OkQ.join2 ((dg a.x).getD i 0-(dg b.x).getD i 0-ld) 0 (⟨by omega,by omega,by omega⟩) (sF rfl) sr))
  ·intro d ld2 hJ
   obtain ⟨hd,hl2,hd2⟩:=hJ
   refine OkQ.then_ (OkC.region (AO rfl (AO rfl (OkL.openV (V:=λb1=>(Value.slice (some ⟨b1,0,none⟩) 1 1)) (T:=3) (cs:=[(vN d)]) (AP rfl) (Av (cs:=[(vN d)]) (pv:=[(0,(vN d))]) Tryz.underlying79 Tryz.sizeOf3 Tryz.zeroValue3 (by decide) (by decide) rfl (by kernel_rfl)) rfl (AK rfl) λb1=>OkL.append1 (j:=0) (cs2:=dgL (ds++[d])) Sx rfl ho (by simp [B3];omega) rfl rfl rfl rfl (by decide) (HL (by omega)) (by omega) (by rw [EQ];rfl) rfl λp_1 c_1 ho_1 hne_1=>asg' rfl (OkL.nil (OkQ.subF (sL [0,1,4,7,5,8,6] rfl) (OkQ.in_normal (OkQ.then_ (OkC.region ?_)))))))))
   exact AO rfl (AG (AY (c:=((i+1:Nat):Int)) rfl rfl (AT (a:=i) (b:=1) (by omega))) rfl (asg' rfl (OkL.nil (OkQ.subF (sL [0,1,4,7,5,8,6] rfl) (OkQ.round5 (i+1) ld2 p_1 c_1 (ds++[d]) (⟨M1 hdd (by omega),by simp [hk],ho_1,by omega,by rw [Bm,Bm];exact Lq hk hv hd2,by omega⟩) (by omega) (sF rfl) (sl sr))))))
 ·replace hc0:=of_decide_eq_false hc0
  have hfin:val10 ds=a.x-b.x:=by
   rw [CZ (by omega),CZ (by omega),CF,CF] at hv
   exact NN hdd hk (by omega) hab hv
  exact OkC.exit (OkQ.then_exit (OkQ.round5_exit (OkQ.in_exit (q2 (AO rfl (Cq (args:=[(Value.slice p i c)]) (v:=(Value.slice p ((dg (val10 ds)).length) c)) Tryz.call213 (λw hw=>(by have h9:=F8 p c ds hdd (by rw [<-hk];exact ho.row) (by omega) w (I0 (hw.holds (i:=0) rfl) ho hk);rw [<-hk] at h9;exact h9)) rfl (asg' rfl (OkL.nil (OkQ.subF (sL [0,1,4,6,7,5] rfl) (OkQ.then_ (OkC.ret (ret_one rfl (rd_tmp (v:=(Value.slice p ((dg (val10 ds)).length) c)) rfl) (λw hw=>TV hw (i:=0) rfl ho hk (by rw [<-hfin];exact E9 hdd) (by rw [hfin]))))))))))))))
theorem La (a b:NV) (hla:(dg a.x).length<=549755813888) (hlb:(dg b.x).length<=549755813888) (w:World) (ha:Holds w (nA a)) (hb:Holds w (nA b)):Calls Tryz.prog 211 #[(nV a),(nV b)] w (Ai w (vI (Cp a.x b.x))):=by
 refine Aa (args:=[(nV a),(nV b)]) (L:=[nA a,nA b]) Tryz.func211 rfl rfl (AK rfl) (Bs rfl ha (Bs rfl hb (Al))) (OkC.subF (sL [0,1] rfl) (q4 (asg' rfl (OkL.nil (q1 (q4 (AO rfl (AG (v:=(vN ((dg a.x).length))) (AD rfl Tryz.underlying79) rfl (AO rfl (AG (v:=(vN ((dg b.x).length))) (AD rfl Tryz.underlying79) rfl (AG (Af (c:=(decide (((dg a.x).length)<((dg b.x).length)))) rfl rfl (B9 (a:=(dg a.x).length) (b:=(dg b.x).length))) rfl ?_)))))))))))
 refine OkL.nil (OkQ.subF (sL [0,1,4,10] rfl) (OkQ.then_ ?_))
 refine OkC.cond rfl (λhc0=>?_) (λhc0=>?_)
 ·replace hc0:=of_decide_eq_true hc0
  have hz:Cp a.x b.x = -1:=if_pos (Kg hc0)
  exact q4 (asg' rfl (OkL.nil (OkQ.then_ (OkC.ret (OkQ.then_ret (ret_one rfl (rd_tmp (v:=(vI (-1:Int))) rfl) (λw hw=>⟨by rw [hz],hw.out⟩)))))))
 ·replace hc0:=of_decide_eq_false hc0
  refine OkC.skip (q1 (q4 (AO rfl (AG (v:=(vN ((dg a.x).length))) (AD rfl Tryz.underlying79) rfl (AO rfl (AG (v:=(vN ((dg b.x).length))) (AD rfl Tryz.underlying79) rfl (AG (B6 (c:=(decide (((dg b.x).length)<((dg a.x).length)))) rfl rfl (B9 (a:=(dg b.x).length) (b:=(dg a.x).length))) rfl (OkL.nil (OkQ.subF (sL [0,1,4,15] rfl) (OkQ.then_ ?_))))))))))
  refine OkC.cond rfl (λhc1=>?_) (λhc1=>?_)
  ·replace hc1:=of_decide_eq_true hc1
   have hz:Cp a.x b.x=1:=by
      have h9:=Kg hc1
      unfold Cp;rw [if_neg (by omega),if_neg (by omega)]
   exact q4 (asg' rfl (OkL.nil (OkQ.then_ (OkC.ret (OkQ.then_ret (ret_one rfl (rd_tmp (v:=(vI 1)) rfl) (λw hw=>⟨by rw [hz],hw.out⟩)))))))
  ·replace hc1:=of_decide_eq_false hc1
   refine OkC.skip (q1 (q4 (AO rfl (AG (v:=(vN ((dg a.x).length))) (AD rfl Tryz.underlying79) rfl (AG (BJ (c:=((((dg a.x).length:Nat):Int)-1)) rfl rfl (BD (by omega) (by omega))) rfl (asg' rfl (OkL.nil (OkQ.subF (sL [0,1,4,5] rfl) (OkQ.then_ (OkC.block ?_))))))))))
   refine OkC.lp1 (tg λ(j:Nat)=>j<=(dg a.x).length/\(dg a.x).drop j=(dg b.x).drop j) (tg λ(j:Nat)=>[(0,(nV a)),(1,(nV b)),(5,(vI (((j:Nat):Int)-1)))]) (tg λ(j:Nat)=>[nA a,nA b]) (tg λ(j:Nat)=>j) ((dg a.x).length) (⟨Nat.le_refl _,by rw [List.drop_length,List.drop_of_length_le (by omega)]⟩) (sF rfl) sr (λj hJ=>?_)
   obtain ⟨hm,hd⟩:=hJ
   have hl:(dg a.x).length=(dg b.x).length:=by omega
   refine OkC.seq (q4 (AO rfl (AG (B_ (c:=(decide ((0:Int)<=(((j:Nat):Int)-1)))) rfl rfl rfl) rfl (OkL.nil (OkQ.subF (sL [0,1,5,20] rfl) (OkQ.then_ ?_))))))
   refine OkC.cond rfl (λhc2=>?_) (λhc2=>?_)
   ·replace hc2:=of_decide_eq_true hc2
    have hdj:(dg a.x).drop (j-1+1)=(dg b.x).drop (j-1+1):=by rw [Nat.sub_add_cancel (by omega)];exact hd
    refine OkC.retell (k:=5) (u:=(vN (j-1))) rfl (by show Value.int _ _=Value.int _ _;congr 1;omega) (OkC.skip (q1 (OkC.block (OkC.seq (OkC.seq (CV [(0,true),(1,true),(2,true),(3,true),(4,true),(5,true),(6,true),(7,true),(8,true)] sr (BN rfl (BN rfl (Ag (v:=(pP (pB a.p) (pO a.p+(j-1)*1))) rfl (AI (j:=j-1) rfl rfl a.ok Tryz.underlying79 Tryz.sizeOf3 rfl (by omega)) (Ag rfl (AQ (v:=(vN ((dg a.x).getD (j-1) 0))) (i:=0) rfl rfl (a.ok.ne (by omega)) BH (DD (ds:=dg a.x) (j:=j-1) (by omega))) (BN rfl ?_)))))))))))
    refine BN rfl (Ag (v:=(pP (pB b.p) (pO b.p+(j-1)*1))) rfl (AI (j:=j-1) rfl rfl b.ok Tryz.underlying79 Tryz.sizeOf3 rfl (by omega)) (Ag rfl (AQ (v:=(vN ((dg b.x).getD (j-1) 0))) (i:=1) rfl rfl (b.ok.ne (by omega)) BH (DD (ds:=dg b.x) (j:=j-1) (by omega))) (Ag rfl (Af (c:=(decide (((dg a.x).getD (j-1) 0)<((dg b.x).getD (j-1) 0)))) rfl rfl (B9 (a:=(dg a.x).getD (j-1) 0) (b:=(dg b.x).getD (j-1) 0))) (OkE.nil (OkQ.subF (sL [0,1,5,31] rfl) (OkQ.then_ ?_))))))
    refine OkC.cond rfl (λhc3=>?_) (λhc3=>?_)
    ·replace hc3:=of_decide_eq_true hc3
     have hz:Cp a.x b.x = -1:=if_pos (R2 hl (by omega) hdj hc3)
     exact q4 (asg' rfl (OkL.nil (OkQ.then_ (OkC.ret (OkQ.then_ret (OkQ.in_ret (OkQ.then_ret (OkQ.round1_ret (OkQ.in_ret (OkQ.then_ret (ret_one rfl (rd_tmp (v:=(vI (-1:Int))) rfl) (λw hw=>⟨by rw [hz],hw.out⟩))))))))))))
    ·replace hc3:=of_decide_eq_false hc3
     refine OkC.skip (q1 (CV [(0,true),(1,true),(2,true),(3,true),(4,true),(5,true),(6,true),(7,true),(8,true)] sr (BN rfl (BN rfl (Ag (v:=(pP (pB a.p) (pO a.p+(j-1)*1))) rfl (AI (j:=j-1) rfl rfl a.ok Tryz.underlying79 Tryz.sizeOf3 rfl (by omega)) (Ag rfl (AQ (v:=(vN ((dg a.x).getD (j-1) 0))) (i:=0) rfl rfl (a.ok.ne (by omega)) BH (DD (ds:=dg a.x) (j:=j-1) (by omega))) (BN rfl (BN rfl (Ag (v:=(pP (pB b.p) (pO b.p+(j-1)*1))) rfl (AI (j:=j-1) rfl rfl b.ok Tryz.underlying79 Tryz.sizeOf3 rfl (by omega)) (Ag rfl (AQ (v:=(vN ((dg b.x).getD (j-1) 0))) (i:=1) rfl rfl (b.ok.ne (by omega)) BH (DD (ds:=dg b.x) (j:=j-1) (by omega))) (Ag rfl (B6 (c:=(decide (((dg b.x).getD (j-1) 0)<((dg a.x).getD (j-1) 0)))) rfl rfl (B9 (a:=(dg b.x).getD (j-1) 0) (b:=(dg a.x).getD (j-1) 0))) ?_)))))))))))
     refine OkE.nil (OkQ.subF (sL [0,1,5,40] rfl) (OkQ.then_ ?_))
     refine OkC.cond rfl (λhc4=>?_) (λhc4=>?_)
     ·replace hc4:=of_decide_eq_true hc4
      have hz:Cp a.x b.x=1:=by
        have h9:=R2 hl.symm (by omega) hdj.symm hc4
        unfold Cp;rw [if_neg (by omega),if_neg (by omega)]
      exact q4 (asg' rfl (OkL.nil (OkQ.then_ (OkC.ret (OkQ.in_ret (OkQ.then_ret (OkQ.round1_ret (OkQ.in_ret (OkQ.then_ret (ret_one rfl (rd_tmp (v:=(vI 1)) rfl) (λw hw=>⟨by rw [hz],hw.out⟩)))))))))))
     ·replace hc4:=of_decide_eq_false hc4
      exact OkC.skip (OkQ.in_normal (OkQ.then_ (OkC.region (AO rfl (AG (BJ (c:=(((j-1:Nat):Int)-1)) rfl rfl (BD (by omega) (by omega))) rfl (asg' rfl (OkL.nil (OkQ.subF (sL [0,1,5] rfl) (OkQ.round1 (j-1) (⟨by omega,L6 hl (by omega) hdj (by omega)⟩) (by omega) (sF rfl) sr)))))))))
   ·replace hc2:=of_decide_eq_false hc2
    obtain rfl:j=0:=by omega
    have hz:Cp a.x b.x=0:=Lc.2 (Wo hd)
    exact OkC.exit (OkQ.then_exit (OkQ.round1_exit (OkQ.in_exit (q2 (asg' rfl (OkL.nil (OkQ.then_ (OkC.ret (ret_one rfl (rd_tmp (v:=(vI 0)) rfl) (λw hw=>⟨by rw [hz],hw.out⟩))))))))))
end
end Go.Proofs.YtpolhpjiahbidaaGreatDoor
