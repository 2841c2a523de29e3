import Derived.Test.YtpgncndhhhllfaaGreatDoorPart03
import Derived.Test.YtpgncndhhhllfaaGreatDoorPart05
import Derived.Test.YtpgncndhhhllfaaGreatDoorPart06
import Derived.Test.YtpgncndhhhllfaaGreatDoorPart18
import Derived.Test.YtpgncndhhhllfaaGreatDoorPart35
namespace Go.Proofs.YtpgncndhhhllfaaGreatDoor
open Go Go.RowKit Go.Proofs.Tryz
set_option linter.unusedVariables false
set_option linter.unusedSimpArgs false
section
set_option maxRecDepth 100000
theorem VZ:ElemT prog 71 3 1 8:=⟨underlying71,DA (by kernel_rfl)⟩
theorem Gm (p:Option Addr) (c:Nat) (ds:List Nat) (hd:I8 ds) (ho:BF p ds.length c) (hl:ds.length<=1099511627776) (w:World) (h:Holds w (AQ p (dgL ds))):Calls prog 200 #[(Value.slice p ds.length c)] w (An w (Value.slice p ((dg (val10 ds)).length) c)):=by
 refine Ah (args:=[(Value.slice p ds.length c)]) (L:=[AQ p (dgL ds)]) func200 O O (AT O) (CE O h (Ax)) (AF.subF (sL [0] O) (q4 (asg' O (AE.nil (q1 ?_)))))
 refine AF.block ?_
 refine AF.lp1 (tg λ(k:Nat)=>k<=ds.length/\val10 (ds.take k)=val10 ds) (tg λ(k:Nat)=>[(2,(Value.slice none 0 0)),(0,(Value.slice p k c))]) (tg λ(k:Nat)=>[AQ p (dgL ds)]) (tg λ(k:Nat)=>k) ds.length (⟨Nat.le_refl _,by rw [List.take_length]⟩) (sF O) sr (λk hJ=>?_)
 obtain ⟨hk,hv⟩:=hJ
 have hok:BF p k c:=⟨λe=>⟨by have:=(ho.nil e).1;omega,(ho.nil e).2⟩,ho.spot,Nat.le_trans hk ho.le⟩
 have hkc:=hok.le
 refine AF.seq (q4 (AM O (AH (v:=(vN k)) (AG O underlying71) O (AH (B3 (c:=(decide (0<k))) O O (CL (a:=0) (b:=k))) O (AM O ?_)))))
 refine AE.mid (FM:=[(2,(Value.slice none 0 0)),(0,(Value.slice p k c)),(3,(Value.slice p k c)),(4,(vN k)),(5,(Value.bool (decide (0<k)))),(6,(Value.bool (decide (0<k)))),(14,(Value.bool ((decide (0<k))&&(decide ((ds.getD (k-1) 0)=0)))))]) (LM:=[AQ p (dgL ds)]) 8 ?_ ?_
 ·rcases Bool.eq_false_or_eq_true (decide (0<k)) with hg1|hg1
  ·skip
   refine AE.retell (k:=6) (u:=Value.bool true) O (by rw [hg1]) ?_
   have hg1':=hg1
   replace hg1':=of_decide_eq_true hg1'
   refine AE.step (v:=(Value.slice p k c)) (AB O) (Al O) O (AT O) (AE.step (v:=(Value.slice p k c)) (AB O) (Al O) O (AT O) (AE.step (v:=(vN k)) (AB O) (AG O underlying71) O (AT O) (AE.step (v:=(vN (k-1))) (AB O) (BW (c:=((k-1:Nat):Int)) O O (CM (a:=k) (b:=1) Z Z)) O (AT O) (AE.step (v:=(pP (pB p) (pO p+(k-1)*1))) (AB O) (AN (j:=k-1) O O hok underlying71 sizeOf3 O Z) O (AT O) (AE.step (v:=(vN (ds.getD (k-1) 0))) (AB O) (Ad (v:=(vN (ds.getD (k-1) 0))) (i:=0) O O (hok.ne Z) Bj (Dj (ds:=ds) (j:=k-1) Z)) O (AT O) ?_)))))
   exact AE.step (v:=(Value.bool (decide ((ds.getD (k-1) 0)=0)))) (AB O) (BL (c:=(decide ((ds.getD (k-1) 0)=0))) O O (Iv (a:=ds.getD (k-1) 0) (b:=0))) O (AT O) (AH (v:=(Value.bool (decide ((ds.getD (k-1) 0)=0)))) (Ac O O) O (AE.nil (AC.mid (sS O (sS O (sS O (sS O (sS O (sS (by first|rfl|(rw [hg1];rfl)|rw [hg1]) (sS (by first|rfl|(rw [hg1];rfl)|rw [hg1]) (sN)))))))) (List.Sublist.refl _))))
  ·skip
   refine AE.retell (k:=6) (u:=Value.bool false) O (by rw [hg1]) ?_
   have hg1':=hg1
   replace hg1':=of_decide_eq_false hg1'
   refine AE.skip (AJ O) O (AT O) (AE.skip (AJ O) O (AT O) (AE.skip (AJ O) O (AT O) (AE.skip (AJ O) O (AT O) (AE.skip (AJ O) O (AT O) (AE.skip (AJ O) O (AT O) ?_)))))
   exact AE.skip (AJ O) O (AT O) (AH (v:=(Value.bool false)) (AP O O) O (AE.nil (AC.mid (sS O (sS O (sS O (sS O (sS O (sS (by first|rfl|(rw [hg1];rfl)|rw [hg1]) (sS (by first|rfl|(rw [hg1];rfl)|rw [hg1]) (sN)))))))) (List.Sublist.refl _))))
 refine AE.nil (AC.subF (sL [2,0,14] O) (AC.then_ ?_))
 refine AF.cond O (λhc0=>?_) (λhc0=>?_)
 ·simp only [Bool.and_eq_true,Bool.or_eq_true,Bool.and_eq_false_iff,Bool.or_eq_false_iff,Bool.not_eq_true',Bool.not_eq_false',decide_eq_true_eq,decide_eq_false_iff_not] at hc0
  refine AF.skip (AC.then_ (AF.block (AF.region (AM O (AM O ?_)))))
  refine AH (v:=(vN k)) (AG O underlying71) O (AH (BW (c:=((k-1:Nat):Int)) O O (CM (a:=k) (b:=1) Z Z)) O (AH (v:=(Value.slice p (k-1) c)) (G1 (m:=k-1) O O underlying71 sizeOf3 Z) O (asg' O (AE.nil (AC.subF (sL [2,0] O) ?_)))))
  exact AC.in_normal (AC.round1 (k-1) (⟨Z,by rw [L6 Z hc0.2,Nat.sub_add_cancel hc0.1,hv]⟩) Z (sF O) sr)
 ·simp only [Bool.and_eq_true,Bool.or_eq_true,Bool.and_eq_false_iff,Bool.or_eq_false_iff,Bool.not_eq_true',Bool.not_eq_false',decide_eq_true_eq,decide_eq_false_iff_not] at hc0
  have htl:=WX hd hk hv (hc0.imp (λh=>by omega) id)
  refine AF.exit (AC.then_exit (AC.round1_exit (AC.in_exit (q2 (AM O ?_)))))
  exact asg' O (AE.nil (AC.subF (sL [2,0] O) (AC.then_ (AF.ret (AI O (AY (v:=(Value.slice p k c)) O) (λw hw=>⟨by rw [<-htl],hw.out⟩))))))
theorem M1 (a:NV) (i:Nat) (hi:i<=1099511627776) (w:World) (ha:Holds w (nA a)):Calls prog 199 #[(nV a),(vN i)] w (An w (vN ((dg a.x).getD i 0))):=by
 refine Ah (args:=[(nV a),(vN i)]) (L:=[nA a]) func199 O O (AT O) (CE O ha (Ax)) (AF.subF (sL [0,1] O) (q4 (asg' O (AE.nil (q1 ?_)))))
 refine q4 (AM O (AM O (AH (v:=(vN ((dg a.x).length))) (AG O underlying71) O (AH (Ae (c:=(decide (i<((dg a.x).length)))) O O (CL (a:=i) (b:=(dg a.x).length))) O (AE.nil ?_)))))
 refine AC.subF (sL [0,1,4,8] O) (AC.then_ ?_)
 refine AF.cond O (λhc0=>?_) (λhc0=>?_)
 ·replace hc0:=of_decide_eq_true hc0
  refine q4 (AM O (AM O (AH (v:=(pP (pB a.p) (pO a.p+i*1))) (AN (j:=i) O O a.ok underlying71 sizeOf3 O Z) O (AH (Ad (v:=(vN ((dg a.x).getD i 0))) (i:=0) O O (a.ok.ne Z) Bj (Dj (ds:=dg a.x) (j:=i) Z)) O (asg' O ?_)))))
  exact AE.nil (AC.subF (sL [0,1,4] O) (AC.then_ (AF.ret (AC.then_ret (AI O (AY (v:=(vN ((dg a.x).getD i 0))) O) (λw hw=>⟨rfl,hw.out⟩))))))
 ·replace hc0:=of_decide_eq_false hc0
  have hg:=Ds hc0
  exact AF.skip (q2 (asg' O (AE.nil (AC.then_ (AF.ret (AI O (AY (v:=(vI 0)) O) (λw hw=>⟨by rw [hg];rfl,hw.out⟩)))))))
theorem Po (x:Nat) (hx:x<18446744073709551616) (w:World)  :Calls prog 194 #[(vK .u64 x)] w (Gs w [] x):=by
 have hlen:(dg x).length<=5:=F4 Z
 refine Af (args:=[(vK .u64 x)]) func194 O O (AT O) (AF.subF (sL [0] O) (q4 (asg' O (AE.nil (q2 ?_)))))
 refine asg' O (AE.nilRow 3 1 (AE.nil (q1 (AF.block ?_))))
 refine AF.lp5 (tg λ(y:Nat) (p:Option Addr) (c:Nat) (k:Nat) (ds:List Nat)=>dg x=ds++dg y/\k=ds.length/\OwnOk p k c/\y<=x) (tg λ(y:Nat) (p:Option Addr) (c:Nat) (k:Nat) (ds:List Nat)=>[(2,(Value.slice none 0 0)),(0,(vK .u64 y)),(3,(Value.slice p k c))]) (tg λ(y:Nat) (p:Option Addr) (c:Nat) (k:Nat) (ds:List Nat)=>[rowW p 3 1 k c (dgL ds)]) (tg λ(y:Nat) (p:Option Addr) (c:Nat) (k:Nat) (ds:List Nat)=>y) x none 0 0 ([]) (⟨rfl,rfl,OwnOk.none,Nat.le_refl _⟩) (sF O) sr (λy p c k ds hJ=>?_)
 obtain ⟨hd,hk,ho,hy⟩:=hJ
 have hkl:k<=5:=by have:=congrArg List.length hd;rw [List.length_append] at this;omega
 refine AF.seq (q4 (AM O (AH (B3 (c:=(decide (0<y))) O O (CL (a:=0) (b:=y))) O (AE.nil (AC.subF (sL [2,0,3,5] O) ?_)))))
 refine AC.then_ ?_
 refine AF.cond O (λhc0=>?_) (λhc0=>?_)
 ·replace hc0:=of_decide_eq_true hc0
  refine AF.skip (AC.then_ (AF.block (q4 (AM O (AM O ?_)))))
  refine AH (Bs (c:=((y%10000:Nat):Int)) O O Z (Gh (a:=y) (b:=10000))) O (AH (Ay (c:=((y%10000:Nat):Int)) O underlying40 underlying3 (B4 Z)) O (AE.openV (V:=λb1=>(Value.slice (some ⟨b1,0,none⟩) 1 1)) (T:=3) (cs:=[(vN (y%10000))]) (AS O) (Av (cs:=[(vN (y%10000))]) (pv:=[(0,(vN (y%10000)))]) underlying71 sizeOf3 zeroValue3 (by decide) (by decide) O (by kernel_rfl)) O (AT O) λb1=>AE.append1 (j:=0) (cs2:=dgL (ds++[y%10000])) VZ O ho (by simp [CW];omega) O O O O (by decide) (Hx Z) Z (by rw [E2];rfl) O λp_1 c_1 ho_1 hne_1=>asg' O (AE.nil ?_)))
  refine AC.subF (sL [2,0,3] O) (AC.then_ (AF.region (AM O (AH (Dp (c:=((y/10000:Nat):Int)) O O Z (IA (a:=y) (b:=10000) Z)) O (asg' O ?_)))))
  exact AE.nil (AC.subF (sL [2,0,3] O) (AC.in_normal (AC.round5 (y/10000) p_1 c_1 (k+1) (ds++[y%10000]) (⟨by rw [hd,Fg Z,List.append_assoc];rfl,by simp [hk],ho_1,Z⟩) Z (sF O) (sl sr))))
 ·replace hc0:=of_decide_eq_false hc0
  refine AF.exit (AC.then_exit (AC.round5_exit (AC.in_exit (q2 (AM O ?_)))))
  refine asg' O (AE.nil (AC.subF (sL [2,0,3] O) (AC.then_ (AF.ret ?_))))
  obtain rfl:y=0:=by omega
  rw [FO,List.append_nil] at hd
  exact AI O (AY (v:=(Value.slice p k c)) O) (λw hw=>Wi hw (i:=0) O ho hk (by rw [hd,List.take_length]) (by rw [hd,<-hk]))
end
section
set_option maxRecDepth 100000
theorem W1 (a b:NV) (hla:(dg a.x).length<=549755813888) (hlb:(dg b.x).length<=549755813888) (w:World) (ha:Holds w (nA a)) (hb:Holds w (nA b)):Calls prog 190 #[(nV a),(nV b)] w (Gs w [] (a.x+b.x)):=by
 refine Ah (args:=[(nV a),(nV b)]) (L:=[nA a,nA b]) func190 O O (AT O) (CE O ha (CE O hb (Ax))) (AF.subF (sL [0,1] O) (q4 (asg' O (AE.nil (q2 ?_)))))
 refine asg' O (AE.nilRow 3 1 (AE.nil (q2 (asg' O (AE.nil ?_)))))
 refine q1 (q4 (asg' O (AE.nil (AC.then_ (AF.block ?_)))))
 refine AF.lp5 (tg λ(i:Nat) (cy:Nat) (p:Option Addr) (c:Nat) (ds:List Nat)=>I8 ds/\i=ds.length/\OwnOk p i c/\cy<=1/\val10 ds+10000^i*cy=val10 ((dg a.x).take i)+val10 ((dg b.x).take i)/\(i<=max (dg a.x).length (dg b.x).length\/i<=max (dg a.x).length (dg b.x).length+1/\cy=0)) (tg λ(i:Nat) (cy:Nat) (p:Option Addr) (c:Nat) (ds:List Nat)=>[(0,(nV a)),(1,(nV b)),(4,(Value.slice none 0 0)),(6,(vN cy)),(7,(vN i)),(5,(Value.slice p i c))]) (tg λ(i:Nat) (cy:Nat) (p:Option Addr) (c:Nat) (ds:List Nat)=>[rowW p 3 1 i c (dgL ds),nA a,nA b]) (tg λ(i:Nat) (cy:Nat) (p:Option Addr) (c:Nat) (ds:List Nat)=>max (dg a.x).length (dg b.x).length+2-i) 0 0 none 0 ([]) (⟨RB,rfl,OwnOk.none,Z,rfl,.inl Z⟩) (sF O) sr (λi cy p c ds hJ=>?_)
 obtain ⟨hdd,hk,ho,hcy,hv,hm⟩:=hJ
 have ga:=GZ a.x i
 have gb:=GZ b.x i
 refine AF.seq (q4 (AM O (AM O (AH (v:=(vN ((dg a.x).length))) (AG O underlying71) O (AH (Ae (c:=(decide (i<((dg a.x).length)))) O O (CL (a:=i) (b:=(dg a.x).length))) O ?_)))))
 refine AM O ?_
 refine AE.mid (FM:=[(0,(nV a)),(1,(nV b)),(4,(Value.slice none 0 0)),(6,(vN cy)),(7,(vN i)),(5,(Value.slice p i c)),(9,(vN i)),(10,(nV a)),(11,(vN ((dg a.x).length))),(12,(Value.bool (decide (i<((dg a.x).length))))),(13,(Value.bool (decide (i<((dg a.x).length))))),(18,(Value.bool ((decide (i<((dg a.x).length)))||(decide (i<((dg b.x).length))))))]) (LM:=[rowW p 3 1 i c (dgL ds),nA a,nA b]) 5 ?_ ?_
 ·rcases Bool.eq_false_or_eq_true (decide (i<((dg a.x).length))) with hg1|hg1
  ·skip
   refine AE.retell (k:=13) (u:=Value.bool true) O (by rw [hg1]) ?_
   have hg1':=hg1
   replace hg1':=of_decide_eq_true hg1'
   exact AE.skip (AJ O) O (AT O) (AE.skip (AJ O) O (AT O) (AE.skip (AJ O) O (AT O) (AE.skip (AJ O) O (AT O) (AH (v:=(Value.bool true)) (Ac O O) O (AE.nil (AC.mid (sS O (sS O (sS O (sS O (sS O (sS O (sS O (sS O (sS O (sS O (sS (by first|rfl|(rw [hg1];rfl)|rw [hg1]) (sS (by first|rfl|(rw [hg1];rfl)|rw [hg1]) (sN))))))))))))) (List.Sublist.refl _)))))))
  ·skip
   refine AE.retell (k:=13) (u:=Value.bool false) O (by rw [hg1]) ?_
   have hg1':=hg1
   replace hg1':=of_decide_eq_false hg1'
   exact AE.step (v:=(vN i)) (AB O) (Al O) O (AT O) (AE.step (v:=(nV b)) (AB O) (Al O) O (AT O) (AE.step (v:=(vN ((dg b.x).length))) (AB O) (AG O underlying71) O (AT O) (AE.step (v:=(Value.bool (decide (i<((dg b.x).length))))) (AB O) (Ae (c:=(decide (i<((dg b.x).length)))) O O (CL (a:=i) (b:=(dg b.x).length))) O (AT O) (AH (v:=(Value.bool (decide (i<((dg b.x).length))))) (AP O O) O (AE.nil (AC.mid (sS O (sS O (sS O (sS O (sS O (sS O (sS O (sS O (sS O (sS O (sS (by first|rfl|(rw [hg1];rfl)|rw [hg1]) (sS (by first|rfl|(rw [hg1];rfl)|rw [hg1]) (sN))))))))))))) (List.Sublist.refl _)))))))
 refine AM O ?_
 refine AE.mid (FM:=[(0,(nV a)),(1,(nV b)),(4,(Value.slice none 0 0)),(6,(vN cy)),(7,(vN i)),(5,(Value.slice p i c)),(9,(vN i)),(10,(nV a)),(11,(vN ((dg a.x).length))),(12,(Value.bool (decide (i<((dg a.x).length))))),(13,(Value.bool (decide (i<((dg a.x).length))))),(18,(Value.bool ((decide (i<((dg a.x).length)))||(decide (i<((dg b.x).length)))))),(19,(Value.bool ((decide (i<((dg a.x).length)))||(decide (i<((dg b.x).length)))))),(22,(Value.bool (((decide (i<((dg a.x).length)))||(decide (i<((dg b.x).length))))||(decide (0<cy)))))]) (LM:=[rowW p 3 1 i c (dgL ds),nA a,nA b]) 3 ?_ ?_
 ·rcases Bool.eq_false_or_eq_true ((decide (i<((dg a.x).length)))||(decide (i<((dg b.x).length)))) with hg2|hg2
  ·skip
   refine AE.retell (k:=19) (u:=Value.bool true) O (by rw [hg2]) ?_
   have hg2':=hg2
   simp only [Bool.and_eq_true,Bool.or_eq_true,Bool.and_eq_false_iff,Bool.or_eq_false_iff,Bool.not_eq_true',Bool.not_eq_false',decide_eq_true_eq,decide_eq_false_iff_not] at hg2'
   exact AE.skip (AJ O) O (AT O) (AE.skip (AJ O) O (AT O) (AH (v:=(Value.bool true)) (Ac O O) O (AE.nil (AC.mid (sS O (sS O (sS O (sS O (sS O (sS O (sS O (sS O (sS O (sS O (sS O (sS O (sS (by first|rfl|(rw [hg2];rfl)|rw [hg2]) (sS (by first|rfl|(rw [hg2];rfl)|rw [hg2]) (sN))))))))))))))) (List.Sublist.refl _)))))
  ·skip
   refine AE.retell (k:=19) (u:=Value.bool false) O (by rw [hg2]) ?_
   have hg2':=hg2
   simp only [Bool.and_eq_true,Bool.or_eq_true,Bool.and_eq_false_iff,Bool.or_eq_false_iff,Bool.not_eq_true',Bool.not_eq_false',decide_eq_true_eq,decide_eq_false_iff_not] at hg2'
   exact AE.step (v:=(vN cy)) (AB O) (Al O) O (AT O) (AE.step (v:=(Value.bool (decide (0<cy)))) (AB O) (B3 (c:=(decide (0<cy))) O O (CL (a:=0) (b:=cy))) O (AT O) (AH (v:=(Value.bool (decide (0<cy)))) (AP O O) O (AE.nil (AC.mid (sS O (sS O (sS O (sS O (sS O (sS O (sS O (sS O (sS O (sS O (sS O (sS O (sS (by first|rfl|(rw [hg2];rfl)|rw [hg2]) (sS (by first|rfl|(rw [hg2];rfl)|rw [hg2]) (sN))))))))))))))) (List.Sublist.refl _)))))
 refine AE.nil (AC.subF (sL [0,1,4,6,7,5,22] O) (AC.then_ ?_))
 refine AF.cond O (λhc0=>?_) (λhc0=>?_)
 ·simp only [Bool.and_eq_true,Bool.or_eq_true,Bool.and_eq_false_iff,Bool.or_eq_false_iff,Bool.not_eq_true',Bool.not_eq_false',decide_eq_true_eq,decide_eq_false_iff_not] at hc0
  refine AF.skip (q1 (AF.block (q4 (AM O (AM O ?_)))))
  have hz1:=GZ a.x i
  refine Cj call199 (λw hw=>M1 a i Z w (hw.holds (i:=1) O)) O (AM O (AM O ?_))
  have hz2:=GZ b.x i
  refine Cj call199 (λw hw=>M1 b i Z w (hw.holds (i:=2) O)) O (AH (AW (c:=((((dg a.x).getD i 0)+((dg b.x).getD i 0):Nat):Int)) O O (AU (a:=(dg a.x).getD i 0) (b:=(dg b.x).getD i 0) Z)) O (AM O (AH (AW (c:=(((((dg a.x).getD i 0)+((dg b.x).getD i 0))+cy:Nat):Int)) O O (AU (a:=((dg a.x).getD i 0)+((dg b.x).getD i 0)) (b:=cy) Z)) O (asg' O (q3 (sL [0,1,4,6,7,5,8] O) ?_)))))
  refine AM O (AM O (AH (Bs (c:=((((((dg a.x).getD i 0)+((dg b.x).getD i 0))+cy)%10000:Nat):Int)) O O Z (Gh (a:=(((dg a.x).getD i 0)+((dg b.x).getD i 0))+cy) (b:=10000))) O (AE.openV (V:=λb1=>(Value.slice (some ⟨b1,0,none⟩) 1 1)) (T:=3) (cs:=[(vN (((((dg a.x).getD i 0)+((dg b.x).getD i 0))+cy)%10000))]) (AS O) (Av (cs:=[(vN (((((dg a.x).getD i 0)+((dg b.x).getD i 0))+cy)%10000))]) (pv:=[(0,(vN (((((dg a.x).getD i 0)+((dg b.x).getD i 0))+cy)%10000)))]) underlying71 sizeOf3 zeroValue3 (by decide) (by decide) O (by kernel_rfl)) O (AT O) λb1=>AE.append1 (j:=0) (cs2:=dgL (ds++[((((dg a.x).getD i 0)+((dg b.x).getD i 0))+cy)%10000])) VZ O ho (by simp [CW];omega) O O O O (by decide) (Hx Z) Z (by rw [E2];rfl) O λp_1 c_1 ho_1 hne_1=>asg' O ?_)))
  refine AE.nil (AC.subF (sL [0,1,4,6,7,5,8] O) (AC.then_ (AF.region (AM O (AH (Dp (c:=((((((dg a.x).getD i 0)+((dg b.x).getD i 0))+cy)/10000:Nat):Int)) O O Z (Ec (a:=(((dg a.x).getD i 0)+((dg b.x).getD i 0))+cy) (b:=10000) Z)) O ?_)))))
  refine asg' O (AE.nil (AC.subF (sL [0,1,4,6,7,5,8] O) (AC.in_normal (AC.then_ (AF.region ?_)))))
  refine AM O (AH (AW (c:=((i+1:Nat):Int)) O O (AU (a:=i) (b:=1) Z)) O (asg' O (AE.nil (AC.subF (sL [0,1,4,6,7,5,8] O) ?_))))
  have hnx:i+1<=max (dg a.x).length (dg b.x).length\/i+1<=max (dg a.x).length (dg b.x).length+1/\((dg a.x).getD i 0+(dg b.x).getD i 0+cy)/10000=0:=by
            by_cases hi:i<max (dg a.x).length (dg b.x).length
            ·exact .inl Z
            ·refine .inr ⟨Z,?_⟩
             rw [Ds (show ¬i<(dg a.x).length by omega),Ds (show ¬i<(dg b.x).length by omega)]
             omega
  exact AC.round5 (i+1) (((dg a.x).getD i 0+(dg b.x).getD i 0+cy)/10000) p_1 c_1 (ds++[((dg a.x).getD i 0+(dg b.x).getD i 0+cy)%10000]) (⟨OI hdd Z,by simp [hk],ho_1,Z,by rw [B5,B5];exact U5 hk hv O,hnx⟩) Z (sF O) (sl sr)
 ·simp only [Bool.and_eq_true,Bool.or_eq_true,Bool.and_eq_false_iff,Bool.or_eq_false_iff,Bool.not_eq_true',Bool.not_eq_false',decide_eq_true_eq,decide_eq_false_iff_not] at hc0
  have hfin:val10 ds=a.x+b.x:=by rw [C4 Z,C4 Z,Ck,Ck,show cy=0 by omega] at hv;simpa using hv
  refine AF.exit (AC.then_exit (AC.round5_exit (AC.in_exit (q2 (AM O ?_)))))
  exact Cj (args:=[(Value.slice p i c)]) (v:=(Value.slice p ((dg (val10 ds)).length) c)) call200 (λw hw=>(by have h9:=Gm p c ds hdd (by rw [<-hk];exact ho.row) Z w (Ku (hw.holds (i:=0) O) ho hk);rw [<-hk] at h9;exact h9)) O (asg' O (AE.nil (AC.subF (sL [0,1,4,6,7,5] O) (AC.then_ (AF.ret (AI O (AY (v:=(Value.slice p ((dg (val10 ds)).length) c)) O) (λw hw=>Wi hw (i:=0) O ho hk (by rw [<-hfin];exact Fs hdd) (by rw [hfin]))))))))
theorem R8 (a b:NV) (hab:b.x<=a.x) (hla:(dg a.x).length<=549755813888) (w:World) (ha:Holds w (nA a)) (hb:Holds w (nA b)):Calls prog 197 #[(nV a),(nV b)] w (Gs w [] (a.x-b.x)):=by
 have hlb:=H5 hab
 refine Ah (args:=[(nV a),(nV b)]) (L:=[nA a,nA b]) func197 O O (AT O) (CE O ha (CE O hb (Ax))) (AF.subF (sL [0,1] O) (q4 (asg' O (AE.nil (q2 ?_)))))
 refine asg' O (AE.nilRow 3 1 (AE.nil (q2 (asg' O (AE.nil ?_)))))
 refine q1 (q4 (asg' O (AE.nil (AC.then_ (AF.block ?_)))))
 refine AF.lp5 (tg λ(i:Nat) (ld:Nat) (p:Option Addr) (c:Nat) (ds:List Nat)=>I8 ds/\i=ds.length/\OwnOk p i c/\ld<=1/\val10 ds+val10 ((dg b.x).take i)=val10 ((dg a.x).take i)+10000^i*ld/\i<=(dg a.x).length) (tg λ(i:Nat) (ld:Nat) (p:Option Addr) (c:Nat) (ds:List Nat)=>[(0,(nV a)),(1,(nV b)),(4,(Value.slice none 0 0)),(6,(vN ld)),(7,(vN i)),(5,(Value.slice p i c))]) (tg λ(i:Nat) (ld:Nat) (p:Option Addr) (c:Nat) (ds:List Nat)=>[rowW p 3 1 i c (dgL ds),nA a,nA b]) (tg λ(i:Nat) (ld:Nat) (p:Option Addr) (c:Nat) (ds:List Nat)=>(dg a.x).length-i) 0 0 none 0 ([]) (⟨RB,rfl,OwnOk.none,Z,rfl,Z⟩) (sF O) sr (λi ld p c ds hJ=>?_)
 obtain ⟨hdd,hk,ho,hcy,hv,hm⟩:=hJ
 have ga:=GZ a.x i
 have gb:=GZ b.x i
 refine AF.seq (q4 (AM O (AM O (AH (v:=(vN ((dg a.x).length))) (AG O underlying71) O (AH (Ae (c:=(decide (i<((dg a.x).length)))) O O (CL (a:=i) (b:=(dg a.x).length))) O ?_)))))
 refine AE.nil (AC.subF (sL [0,1,4,6,7,5,12] O) (AC.then_ ?_))
 refine AF.cond O (λhc0=>?_) (λhc0=>?_)
 ·replace hc0:=of_decide_eq_true hc0
  refine AF.skip (q1 (AF.block (AF.seq (Cd [(0,true),(1,true),(2,true),(3,true),(4,true),(5,true),(8,true),(6,false),(7,true),(9,true),(10,true)] sr (Bb O ?_)))))
  refine Bb O (Aq (v:=(pP (pB a.p) (pO a.p+i*1))) O (AN (j:=i) O O a.ok underlying71 sizeOf3 O Z) (Aq O (Ad (v:=(vN ((dg a.x).getD i 0))) (i:=1) O O (a.ok.ne Z) Bj (Dj (ds:=dg a.x) (j:=i) Z)) (Bb O (Bb O (Bb O ?_)))))
  refine OkE.imp O ?_
  have hz1:=GZ b.x i
  refine Cj call199 (λw hw=>M1 b i Z w (hw.holds (i:=2) O)) O (OkE.back sr (Aq O (BW (c:=((((dg a.x).getD i 0:Nat):Int)-(((dg b.x).getD i 0:Nat):Int))) O O (A_ Z Z)) (Aq O (BW (c:=((((dg a.x).getD i 0:Nat):Int)-(((dg b.x).getD i 0:Nat):Int)-(ld:Int))) O O (A_ Z Z)) (pS' O (OkE.nil ?_)))))
  refine AC.subF (sL [0,1,4,6,7,5,8] O) (q2 (asg' O (AE.nil (q1 (q4 ?_)))))
  refine AM O (AH (Ae (c:=(decide (((((dg a.x).getD i 0:Nat):Int)-(((dg b.x).getD i 0:Nat):Int)-(ld:Int))<(0:Int)))) O O O) O (AE.nil (AC.subF (sL [0,1,4,6,7,5,8,26] O) (AC.then_ ?_))))
  refine AF.jn2 (tg λ(d:Nat) (ld2:Nat)=>d<10000/\ld2<=1/\d+(dg b.x).getD i 0+ld=(dg a.x).getD i 0+10000*ld2) (tg λ(d:Nat) (ld2:Nat)=>[(0,(nV a)),(1,(nV b)),(4,(Value.slice none 0 0)),(7,(vN i)),(5,(Value.slice p i c)),(8,(vN d)),(6,(vN ld2))]) (tg λ(d:Nat) (ld2:Nat)=>[rowW p 3 1 i c (dgL ds),nA a,nA b]) ?_ ?_
  ·skip
   refine AF.cond O (λhc1=>?_) (λhc1=>?_)
   ·replace hc1:=of_decide_eq_true hc1
    refine q4 (AM O (AH (AW (c:=(((dg a.x).getD i 0+10000-(dg b.x).getD i 0-ld:Nat):Int)) O O (by rw [A_ Z Z];omega)) O (asg' O (AE.nil (AC.subF (sL [0,1,4,6,7,5,8] O) ?_)))))
    exact AC.then_ (AF.region (asg' O (AE.nil (AC.join2 ((dg a.x).getD i 0+10000-(dg b.x).getD i 0-ld) 1 (⟨Z,Z,Z⟩) (sF O) sr))))
   ·replace hc1:=of_decide_eq_false hc1
    exact AF.retell (k:=8) (u:=(vN ((dg a.x).getD i 0-(dg b.x).getD i 0-ld))) O (by show Value.int _ _=Value.int _ _;congr 1;omega) (AF.skip (AC.join2 ((dg a.x).getD i 0-(dg b.x).getD i 0-ld) 0 (⟨Z,Z,Z⟩) (sF O) sr))
  ·intro d ld2 hJ
   obtain ⟨hd,hl2,hd2⟩:=hJ
   refine AC.then_ (AF.region (AM O (AM O (AE.openV (V:=λb1=>(Value.slice (some ⟨b1,0,none⟩) 1 1)) (T:=3) (cs:=[(vN d)]) (AS O) (Av (cs:=[(vN d)]) (pv:=[(0,(vN d))]) underlying71 sizeOf3 zeroValue3 (by decide) (by decide) O (by kernel_rfl)) O (AT O) λb1=>AE.append1 (j:=0) (cs2:=dgL (ds++[d])) VZ O ho (by simp [CW];omega) O O O O (by decide) (Hx Z) Z (by rw [E2];rfl) O λp_1 c_1 ho_1 hne_1=>?_))))
   refine asg' O (AE.nil (AC.subF (sL [0,1,4,7,5,8,6] O) (AC.in_normal (AC.then_ (AF.region ?_)))))
   exact AM O (AH (AW (c:=((i+1:Nat):Int)) O O (AU (a:=i) (b:=1) Z)) O (asg' O (AE.nil (AC.subF (sL [0,1,4,7,5,8,6] O) (AC.round5 (i+1) ld2 p_1 c_1 (ds++[d]) (⟨OI hdd Z,by simp [hk],ho_1,Z,by rw [B5,B5];exact Nd hk hv hd2,Z⟩) Z (sF O) (sl sr))))))
 ·replace hc0:=of_decide_eq_false hc0
  have hfin:val10 ds=a.x-b.x:=by
   rw [C4 Z,C4 Z,Ck,Ck] at hv
   exact On hdd hk Z hab hv
  refine AF.exit (AC.then_exit (AC.round5_exit (AC.in_exit (q2 (AM O ?_)))))
  exact Cj (args:=[(Value.slice p i c)]) (v:=(Value.slice p ((dg (val10 ds)).length) c)) call200 (λw hw=>(by have h9:=Gm p c ds hdd (by rw [<-hk];exact ho.row) Z w (Ku (hw.holds (i:=0) O) ho hk);rw [<-hk] at h9;exact h9)) O (asg' O (AE.nil (AC.subF (sL [0,1,4,6,7,5] O) (AC.then_ (AF.ret (AI O (AY (v:=(Value.slice p ((dg (val10 ds)).length) c)) O) (λw hw=>Wi hw (i:=0) O ho hk (by rw [<-hfin];exact Fs hdd) (by rw [hfin]))))))))
theorem Mx (a b:NV) (hla:(dg a.x).length<=549755813888) (hlb:(dg b.x).length<=549755813888) (w:World) (ha:Holds w (nA a)) (hb:Holds w (nA b)):Calls prog 198 #[(nV a),(nV b)] w (An w (vI (DL a.x b.x))):=by
 refine Ah (args:=[(nV a),(nV b)]) (L:=[nA a,nA b]) func198 O O (AT O) (CE O ha (CE O hb (Ax))) (AF.subF (sL [0,1] O) (q4 (asg' O (AE.nil (q1 ?_)))))
 refine q4 (AM O (AH (v:=(vN ((dg a.x).length))) (AG O underlying71) O (AM O (AH (v:=(vN ((dg b.x).length))) (AG O underlying71) O (AH (Ae (c:=(decide (((dg a.x).length)<((dg b.x).length)))) O O (CL (a:=(dg a.x).length) (b:=(dg b.x).length))) O ?_)))))
 refine AE.nil (AC.subF (sL [0,1,4,10] O) (AC.then_ ?_))
 refine AF.cond O (λhc0=>?_) (λhc0=>?_)
 ·replace hc0:=of_decide_eq_true hc0
  have hz:DL a.x b.x = -1:=if_pos (MA hc0)
  exact q4 (asg' O (AE.nil (AC.then_ (AF.ret (AC.then_ret (AI O (AY (v:=(vI (-1:Int))) O) (λw hw=>⟨by rw [hz],hw.out⟩)))))))
 ·replace hc0:=of_decide_eq_false hc0
  refine AF.skip (q1 (q4 (AM O (AH (v:=(vN ((dg a.x).length))) (AG O underlying71) O (AM O ?_)))))
  refine AH (v:=(vN ((dg b.x).length))) (AG O underlying71) O (AH (B3 (c:=(decide (((dg b.x).length)<((dg a.x).length)))) O O (CL (a:=(dg b.x).length) (b:=(dg a.x).length))) O (AE.nil (AC.subF (sL [0,1,4,15] O) (AC.then_ ?_))))
  refine AF.cond O (λhc1=>?_) (λhc1=>?_)
  ·replace hc1:=of_decide_eq_true hc1
   have hz:DL a.x b.x=1:=by
      have h9:=MA hc1
      unfold DL;rw [if_neg Z,if_neg Z]
   exact q4 (asg' O (AE.nil (AC.then_ (AF.ret (AC.then_ret (AI O (AY (v:=(vI 1)) O) (λw hw=>⟨by rw [hz],hw.out⟩)))))))
  ·replace hc1:=of_decide_eq_false hc1
   refine AF.skip (q1 (q4 (AM O (AH (v:=(vN ((dg a.x).length))) (AG O underlying71) O (AH (BW (c:=((((dg a.x).length:Nat):Int)-1)) O O (A_ Z Z)) O ?_)))))
   refine asg' O (AE.nil (AC.subF (sL [0,1,4,5] O) (AC.then_ (AF.block ?_))))
   refine AF.lp1 (tg λ(j:Nat)=>j<=(dg a.x).length/\(dg a.x).drop j=(dg b.x).drop j) (tg λ(j:Nat)=>[(0,(nV a)),(1,(nV b)),(5,(vI (((j:Nat):Int)-1)))]) (tg λ(j:Nat)=>[nA a,nA b]) (tg λ(j:Nat)=>j) ((dg a.x).length) (⟨Nat.le_refl _,by rw [List.drop_length,List.drop_of_length_le Z]⟩) (sF O) sr (λj hJ=>?_)
   obtain ⟨hm,hd⟩:=hJ
   have hl:(dg a.x).length=(dg b.x).length:=by omega
   refine AF.seq (q4 (AM O (AH (CU (c:=(decide ((0:Int)<=(((j:Nat):Int)-1)))) O O O) O (AE.nil (AC.subF (sL [0,1,5,20] O) ?_)))))
   refine AC.then_ ?_
   refine AF.cond O (λhc2=>?_) (λhc2=>?_)
   ·replace hc2:=of_decide_eq_true hc2
    have hdj:(dg a.x).drop (j-1+1)=(dg b.x).drop (j-1+1):=by rw [Nat.sub_add_cancel Z];exact hd
    refine AF.retell (k:=5) (u:=(vN (j-1))) O (by show Value.int _ _=Value.int _ _;congr 1;omega) (AF.skip (q1 (AF.block (AF.seq (AF.seq ?_)))))
    refine Cd [(0,true),(1,true),(2,true),(3,true),(4,true),(5,true),(6,true),(7,true),(8,true)] sr (Bb O (Bb O (Aq (v:=(pP (pB a.p) (pO a.p+(j-1)*1))) O (AN (j:=j-1) O O a.ok underlying71 sizeOf3 O Z) (Aq O (Ad (v:=(vN ((dg a.x).getD (j-1) 0))) (i:=0) O O (a.ok.ne Z) Bj (Dj (ds:=dg a.x) (j:=j-1) Z)) (Bb O ?_)))))
    refine Bb O (Aq (v:=(pP (pB b.p) (pO b.p+(j-1)*1))) O (AN (j:=j-1) O O b.ok underlying71 sizeOf3 O Z) (Aq O (Ad (v:=(vN ((dg b.x).getD (j-1) 0))) (i:=1) O O (b.ok.ne Z) Bj (Dj (ds:=dg b.x) (j:=j-1) Z)) (Aq O (Ae (c:=(decide (((dg a.x).getD (j-1) 0)<((dg b.x).getD (j-1) 0)))) O O (CL (a:=(dg a.x).getD (j-1) 0) (b:=(dg b.x).getD (j-1) 0))) (OkE.nil (AC.subF (sL [0,1,5,31] O) ?_)))))
    refine AC.then_ ?_
    refine AF.cond O (λhc3=>?_) (λhc3=>?_)
    ·replace hc3:=of_decide_eq_true hc3
     have hz:DL a.x b.x = -1:=if_pos (UL hl Z hdj hc3)
     refine q4 (asg' O (AE.nil (AC.then_ (AF.ret (AC.then_ret ?_)))))
     exact AC.in_ret (AC.then_ret (AC.round1_ret (AC.in_ret (AC.then_ret (AI O (AY (v:=(vI (-1:Int))) O) (λw hw=>⟨by rw [hz],hw.out⟩))))))
    ·replace hc3:=of_decide_eq_false hc3
     refine AF.skip (q1 (Cd [(0,true),(1,true),(2,true),(3,true),(4,true),(5,true),(6,true),(7,true),(8,true)] sr (Bb O (Bb O (Aq (v:=(pP (pB a.p) (pO a.p+(j-1)*1))) O (AN (j:=j-1) O O a.ok underlying71 sizeOf3 O Z) ?_)))))
     refine Aq O (Ad (v:=(vN ((dg a.x).getD (j-1) 0))) (i:=0) O O (a.ok.ne Z) Bj (Dj (ds:=dg a.x) (j:=j-1) Z)) (Bb O (Bb O (Aq (v:=(pP (pB b.p) (pO b.p+(j-1)*1))) O (AN (j:=j-1) O O b.ok underlying71 sizeOf3 O Z) (Aq O (Ad (v:=(vN ((dg b.x).getD (j-1) 0))) (i:=1) O O (b.ok.ne Z) Bj (Dj (ds:=dg b.x) (j:=j-1) Z)) (Aq O (B3 (c:=(decide (((dg b.x).getD (j-1) 0)<((dg a.x).getD (j-1) 0)))) O O (CL (a:=(dg b.x).getD (j-1) 0) (b:=(dg a.x).getD (j-1) 0))) ?_)))))
     refine OkE.nil (AC.subF (sL [0,1,5,40] O) (AC.then_ ?_))
     refine AF.cond O (λhc4=>?_) (λhc4=>?_)
     ·replace hc4:=of_decide_eq_true hc4
      have hz:DL a.x b.x=1:=by
        have h9:=UL hl.symm Z hdj.symm hc4
        unfold DL;rw [if_neg Z,if_neg Z]
      refine q4 (asg' O (AE.nil (AC.then_ (AF.ret (AC.in_ret ?_)))))
      exact AC.then_ret (AC.round1_ret (AC.in_ret (AC.then_ret (AI O (AY (v:=(vI 1)) O) (λw hw=>⟨by rw [hz],hw.out⟩)))))
     ·replace hc4:=of_decide_eq_false hc4
      refine AF.skip (AC.in_normal (AC.then_ (AF.region (AM O (AH (BW (c:=(((j-1:Nat):Int)-1)) O O (A_ Z Z)) O ?_)))))
      exact asg' O (AE.nil (AC.subF (sL [0,1,5] O) (AC.round1 (j-1) (⟨Z,OH hl Z hdj Z⟩) Z (sF O) sr)))
   ·replace hc2:=of_decide_eq_false hc2
    obtain rfl:j=0:=by omega
    have hz:DL a.x b.x=0:=NB.2 (Ze hd)
    refine AF.exit (AC.then_exit (AC.round1_exit (AC.in_exit (q2 (asg' O ?_)))))
    exact AE.nil (AC.then_ (AF.ret (AI O (AY (v:=(vI 0)) O) (λw hw=>⟨by rw [hz],hw.out⟩))))
end
end Go.Proofs.YtpgncndhhhllfaaGreatDoor
