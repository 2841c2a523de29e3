import Derived.Test.YtpgncndhhhllfaaGreatPart03
import Derived.Test.YtpgncndhhhllfaaGreatPart05
import Derived.Test.YtpgncndhhhllfaaGreatPart06
import Derived.Test.YtpgncndhhhllfaaGreatPart16
import Derived.Test.YtpgncndhhhllfaaGreatPart45
namespace Go.Proofs.YtpgncndhhhllfaaGreat
open Go Go.RowKit Go.Proofs.Tryz
set_option linter.unusedVariables false
set_option linter.unusedSimpArgs false
section
set_option maxRecDepth 100000
theorem Um:ElemT prog 93 3 1 8:=⟨underlying93,CR (by kernel_rfl)⟩
theorem GV (p:Option Addr) (c:Nat) (ds:List Nat) (hd:JI ds) (ho:Aw p ds.length c) (hl:ds.length<=1099511627776) (w:World) (h:Holds w (AK p (dgL ds))):Calls prog 152 #[(Value.slice p ds.length c)] w (A9 w (Value.slice p ((dg (val10 ds)).length) c)):=by
 refine An (args:=[(Value.slice p ds.length c)]) (L:=[AK p (dgL ds)]) func152 O O (Ad O) (CJ O h (BA)) (AE.subF (sL [0] O) (q4 (AI O (AC.nil (q1 (AE.block ?_))))))
 refine AE.lp1 (tg λ(k:Nat)=>k<=ds.length/\val10 (ds.take k)=val10 ds) (tg λ(k:Nat)=>[(2,(Value.slice none 0 0)),(0,(Value.slice p k c))]) (tg λ(k:Nat)=>[AK p (dgL ds)]) (tg λ(k:Nat)=>k) ds.length (⟨Nat.le_refl _,by rw [List.take_length]⟩) (sF O) sr (λk hJ=>?_)
 obtain ⟨hk,hv⟩:=hJ
 have hok:Aw p k c:=⟨λe=>⟨by have:=(ho.nil e).1;omega,(ho.nil e).2⟩,ho.spot,Nat.le_trans hk ho.le⟩
 have hkc:=hok.le
 refine AE.seq (q4 (AM O (AJ (v:=(vN k)) (AF O underlying93) O (AJ (CY (c:=(decide (0<k))) O O (CD (a:=0) (b:=k))) O (AM O ?_)))))
 refine AC.mid (FM:=[(2,(Value.slice none 0 0)),(0,(Value.slice p k c)),(3,(Value.slice p k c)),(4,(vN k)),(5,(Value.bool (decide (0<k)))),(6,(Value.bool (decide (0<k)))),(14,(Value.bool ((decide (0<k))&&(decide ((ds.getD (k-1) 0)=0)))))]) (LM:=[AK p (dgL ds)]) 8 ?_ ?_
 ·rcases Bool.eq_false_or_eq_true (decide (0<k)) with hg1|hg1
  ·skip
   refine AC.retell (k:=6) (u:=Value.bool true) O (by rw [hg1]) ?_
   have hg1':=hg1
   replace hg1':=of_decide_eq_true hg1'
   exact AC.step (v:=(Value.slice p k c)) (AA O) (AU O) O (Ad O) (AC.step (v:=(Value.slice p k c)) (AA O) (AU O) O (Ad O) (AC.step (v:=(vN k)) (AA O) (AF O underlying93) O (Ad O) (AC.step (v:=(vN (k-1))) (AA O) (BU (c:=((k-1:Nat):Int)) O O (By (a:=k) (b:=1) Z Z)) O (Ad O) (AC.step (v:=(pP (pB p) (pO p+(k-1)*1))) (AA O) (AG (j:=k-1) O O hok underlying93 sizeOf3 O Z) O (Ad O) (AC.step (v:=(vN (ds.getD (k-1) 0))) (AA O) (AL (v:=(vN (ds.getD (k-1) 0))) (i:=0) O O (hok.ne Z) BY (Dn (ds:=ds) (j:=k-1) Z)) O (Ad O) (AC.step (v:=(Value.bool (decide ((ds.getD (k-1) 0)=0)))) (AA O) (BQ (c:=(decide ((ds.getD (k-1) 0)=0))) O O (JC (a:=ds.getD (k-1) 0) (b:=0))) O (Ad O) (AJ (v:=(Value.bool (decide ((ds.getD (k-1) 0)=0)))) (AW O O) O (AC.nil (OkQ.mid (sS O (sS O (sS O (sS O (sS O (sS (by first|rfl|(rw [hg1];rfl)|rw [hg1]) (sS (by first|rfl|(rw [hg1];rfl)|rw [hg1]) (sN)))))))) (List.Sublist.refl _))))))))))
  ·skip
   refine AC.retell (k:=6) (u:=Value.bool false) O (by rw [hg1]) ?_
   have hg1':=hg1
   replace hg1':=of_decide_eq_false hg1'
   exact AC.skip (AH O) O (Ad O) (AC.skip (AH O) O (Ad O) (AC.skip (AH O) O (Ad O) (AC.skip (AH O) O (Ad O) (AC.skip (AH O) O (Ad O) (AC.skip (AH O) O (Ad O) (AC.skip (AH O) O (Ad O) (AJ (v:=(Value.bool false)) (AT O O) O (AC.nil (OkQ.mid (sS O (sS O (sS O (sS O (sS O (sS (by first|rfl|(rw [hg1];rfl)|rw [hg1]) (sS (by first|rfl|(rw [hg1];rfl)|rw [hg1]) (sN)))))))) (List.Sublist.refl _))))))))))
 refine AC.nil (OkQ.subF (sL [2,0,14] O) (OkQ.then_ ?_))
 refine AE.cond O (λhc0=>?_) (λhc0=>?_)
 ·simp only [Bool.and_eq_true,Bool.or_eq_true,Bool.and_eq_false_iff,Bool.or_eq_false_iff,Bool.not_eq_true',Bool.not_eq_false',decide_eq_true_eq,decide_eq_false_iff_not] at hc0
  refine AE.skip (OkQ.then_ (AE.block (AE.region (AM O (AM O (AJ (v:=(vN k)) (AF O underlying93) O (AJ (BU (c:=((k-1:Nat):Int)) O O (By (a:=k) (b:=1) Z Z)) O (AJ (v:=(Value.slice p (k-1) c)) (ER (m:=k-1) O O underlying93 sizeOf3 Z) O (AI O (AC.nil (OkQ.subF (sL [2,0] O) ?_)))))))))))
  exact OkQ.in_normal (OkQ.round1 (k-1) (⟨Z,by rw [LR Z hc0.2,Nat.sub_add_cancel hc0.1,hv]⟩) Z (sF O) sr)
 ·simp only [Bool.and_eq_true,Bool.or_eq_true,Bool.and_eq_false_iff,Bool.or_eq_false_iff,Bool.not_eq_true',Bool.not_eq_false',decide_eq_true_eq,decide_eq_false_iff_not] at hc0
  have htl:=V4 hd hk hv (hc0.imp (λh=>by omega) id)
  exact AE.exit (OkQ.then_exit (OkQ.round1_exit (OkQ.in_exit (q2 (AM O (AI O (AC.nil (OkQ.subF (sL [2,0] O) (OkQ.then_ (AE.ret (AV O (Ah (v:=(Value.slice p k c)) O) (λw hw=>⟨by rw [<-htl],hw.out⟩))))))))))))
theorem M6 (a:NV) (i:Nat) (hi:i<=1099511627776) (w:World) (ha:Holds w (nA a)):Calls prog 151 #[(nV a),(vN i)] w (A9 w (vN ((dg a.x).getD i 0))):=by
 refine An (args:=[(nV a),(vN i)]) (L:=[nA a]) func151 O O (Ad O) (CJ O ha (BA)) (AE.subF (sL [0,1] O) (q4 (AI O (AC.nil (q1 (q4 (AM O (AM O (AJ (v:=(vN ((dg a.x).length))) (AF O underlying93) O (AJ (Ac (c:=(decide (i<((dg a.x).length)))) O O (CD (a:=i) (b:=(dg a.x).length))) O (AC.nil ?_)))))))))))
 refine OkQ.subF (sL [0,1,4,8] O) (OkQ.then_ ?_)
 refine AE.cond O (λhc0=>?_) (λhc0=>?_)
 ·replace hc0:=of_decide_eq_true hc0
  exact q4 (AM O (AM O (AJ (v:=(pP (pB a.p) (pO a.p+i*1))) (AG (j:=i) O O a.ok underlying93 sizeOf3 O Z) O (AJ (AL (v:=(vN ((dg a.x).getD i 0))) (i:=0) O O (a.ok.ne Z) BY (Dn (ds:=dg a.x) (j:=i) Z)) O (AI O (AC.nil (OkQ.subF (sL [0,1,4] O) (OkQ.then_ (AE.ret (OkQ.then_ret (AV O (Ah (v:=(vN ((dg a.x).getD i 0))) O) (λw hw=>⟨rfl,hw.out⟩))))))))))))
 ·replace hc0:=of_decide_eq_false hc0
  have hg:=Dg hc0
  exact AE.skip (q2 (AI O (AC.nil (OkQ.then_ (AE.ret (AV O (Ah (v:=(vI 0)) O) (λw hw=>⟨by rw [hg];rfl,hw.out⟩)))))))
theorem P1 (x:Nat) (hx:x<18446744073709551616) (w:World)  :Calls prog 135 #[(vK .u64 x)] w (GE w [] x):=by
 have hlen:(dg x).length<=5:=Fv Z
 refine Aq (args:=[(vK .u64 x)]) func135 O O (Ad O) (AE.subF (sL [0] O) (q4 (AI O (AC.nil (q2 (AI O (AC.nilRow 3 1 (AC.nil (q1 (AE.block ?_))))))))))
 refine AE.lp5 (tg λ(y:Nat) (p:Option Addr) (c:Nat) (k:Nat) (ds:List Nat)=>dg x=ds++dg y/\k=ds.length/\OwnOk p k c/\y<=x) (tg λ(y:Nat) (p:Option Addr) (c:Nat) (k:Nat) (ds:List Nat)=>[(2,(Value.slice none 0 0)),(0,(vK .u64 y)),(3,(Value.slice p k c))]) (tg λ(y:Nat) (p:Option Addr) (c:Nat) (k:Nat) (ds:List Nat)=>[rowW p 3 1 k c (dgL ds)]) (tg λ(y:Nat) (p:Option Addr) (c:Nat) (k:Nat) (ds:List Nat)=>y) x none 0 0 ([]) (⟨rfl,rfl,OwnOk.none,Nat.le_refl _⟩) (sF O) sr (λy p c k ds hJ=>?_)
 obtain ⟨hd,hk,ho,hy⟩:=hJ
 have hkl:k<=5:=by have:=congrArg List.length hd;rw [List.length_append] at this;omega
 refine AE.seq (q4 (AM O (AJ (CY (c:=(decide (0<y))) O O (CD (a:=0) (b:=y))) O (AC.nil (OkQ.subF (sL [2,0,3,5] O) (OkQ.then_ ?_))))))
 refine AE.cond O (λhc0=>?_) (λhc0=>?_)
 ·replace hc0:=of_decide_eq_true hc0
  refine AE.skip (OkQ.then_ (AE.block (q4 (AM O (AM O (AJ (Bg (c:=((y%10000:Nat):Int)) O O Z (F3 (a:=y) (b:=10000))) O (AJ (Ax (c:=((y%10000:Nat):Int)) O underlying56 underlying3 (CI Z)) O (AC.openV (V:=λb1=>(Value.slice (some ⟨b1,0,none⟩) 1 1)) (T:=3) (cs:=[(vN (y%10000))]) (AP O) (Ai (cs:=[(vN (y%10000))]) (pv:=[(0,(vN (y%10000)))]) underlying93 sizeOf3 zeroValue3 (by decide) (by decide) O (by kernel_rfl)) O (Ad O) λb1=>AC.append1 (j:=0) (cs2:=dgL (ds++[y%10000])) Um O ho (by simp [CT];omega) O O O O (by decide) (FE Z) Z (by rw [Eu];rfl) O λp_1 c_1 ho_1 hne_1=>AI O (AC.nil ?_)))))))))
  exact OkQ.subF (sL [2,0,3] O) (OkQ.then_ (AE.region (AM O (AJ (Dm (c:=((y/10000:Nat):Int)) O O Z (Hs (a:=y) (b:=10000) Z)) O (AI O (AC.nil (OkQ.subF (sL [2,0,3] O) (OkQ.in_normal (OkQ.round5 (y/10000) p_1 c_1 (k+1) (ds++[y%10000]) (⟨by rw [hd,FJ Z,List.append_assoc];rfl,by simp [hk],ho_1,Z⟩) Z (sF O) (sl sr))))))))))
 ·replace hc0:=of_decide_eq_false hc0
  refine AE.exit (OkQ.then_exit (OkQ.round5_exit (OkQ.in_exit (q2 (AM O (AI O (AC.nil (OkQ.subF (sL [2,0,3] O) (OkQ.then_ (AE.ret ?_))))))))))
  obtain rfl:y=0:=by omega
  rw [FA,List.append_nil] at hd
  exact AV O (Ah (v:=(Value.slice p k c)) O) (λw hw=>Vy hw (i:=0) O ho hk (by rw [hd,List.take_length]) (by rw [hd,<-hk]))
end
section
set_option maxRecDepth 100000
theorem XY (a b:NV) (hla:(dg a.x).length<=549755813888) (hlb:(dg b.x).length<=549755813888) (w:World) (ha:Holds w (nA a)) (hb:Holds w (nA b)):Calls prog 134 #[(nV a),(nV b)] w (GE w [] (a.x+b.x)):=by
 refine An (args:=[(nV a),(nV b)]) (L:=[nA a,nA b]) func134 O O (Ad O) (CJ O ha (CJ O hb (BA))) (AE.subF (sL [0,1] O) (q4 (AI O (AC.nil (q2 (AI O (AC.nilRow 3 1 (AC.nil (q2 (AI O (AC.nil ?_)))))))))))
 refine q1 (q4 (AI O (AC.nil (OkQ.then_ (AE.block ?_)))))
 refine AE.lp5 (tg λ(i:Nat) (cy:Nat) (p:Option Addr) (c:Nat) (ds:List Nat)=>JI ds/\i=ds.length/\OwnOk p i c/\cy<=1/\val10 ds+10000^i*cy=val10 ((dg a.x).take i)+val10 ((dg b.x).take i)/\(i<=max (dg a.x).length (dg b.x).length\/i<=max (dg a.x).length (dg b.x).length+1/\cy=0)) (tg λ(i:Nat) (cy:Nat) (p:Option Addr) (c:Nat) (ds:List Nat)=>[(0,(nV a)),(1,(nV b)),(4,(Value.slice none 0 0)),(6,(vN cy)),(7,(vN i)),(5,(Value.slice p i c))]) (tg λ(i:Nat) (cy:Nat) (p:Option Addr) (c:Nat) (ds:List Nat)=>[rowW p 3 1 i c (dgL ds),nA a,nA b]) (tg λ(i:Nat) (cy:Nat) (p:Option Addr) (c:Nat) (ds:List Nat)=>max (dg a.x).length (dg b.x).length+2-i) 0 0 none 0 ([]) (⟨R5,rfl,OwnOk.none,Z,rfl,.inl Z⟩) (sF O) sr (λi cy p c ds hJ=>?_)
 obtain ⟨hdd,hk,ho,hcy,hv,hm⟩:=hJ
 have ga:=Gd a.x i
 have gb:=Gd b.x i
 refine AE.seq (q4 (AM O (AM O (AJ (v:=(vN ((dg a.x).length))) (AF O underlying93) O (AJ (Ac (c:=(decide (i<((dg a.x).length)))) O O (CD (a:=i) (b:=(dg a.x).length))) O (AM O ?_))))))
 refine AC.mid (FM:=[(0,(nV a)),(1,(nV b)),(4,(Value.slice none 0 0)),(6,(vN cy)),(7,(vN i)),(5,(Value.slice p i c)),(9,(vN i)),(10,(nV a)),(11,(vN ((dg a.x).length))),(12,(Value.bool (decide (i<((dg a.x).length))))),(13,(Value.bool (decide (i<((dg a.x).length))))),(18,(Value.bool ((decide (i<((dg a.x).length)))||(decide (i<((dg b.x).length))))))]) (LM:=[rowW p 3 1 i c (dgL ds),nA a,nA b]) 5 ?_ ?_
 ·rcases Bool.eq_false_or_eq_true (decide (i<((dg a.x).length))) with hg1|hg1
  ·skip
   refine AC.retell (k:=13) (u:=Value.bool true) O (by rw [hg1]) ?_
   have hg1':=hg1
   replace hg1':=of_decide_eq_true hg1'
   exact AC.skip (AH O) O (Ad O) (AC.skip (AH O) O (Ad O) (AC.skip (AH O) O (Ad O) (AC.skip (AH O) O (Ad O) (AJ (v:=(Value.bool true)) (AW O O) O (AC.nil (OkQ.mid (sS O (sS O (sS O (sS O (sS O (sS O (sS O (sS O (sS O (sS O (sS (by first|rfl|(rw [hg1];rfl)|rw [hg1]) (sS (by first|rfl|(rw [hg1];rfl)|rw [hg1]) (sN))))))))))))) (List.Sublist.refl _)))))))
  ·skip
   refine AC.retell (k:=13) (u:=Value.bool false) O (by rw [hg1]) ?_
   have hg1':=hg1
   replace hg1':=of_decide_eq_false hg1'
   exact AC.step (v:=(vN i)) (AA O) (AU O) O (Ad O) (AC.step (v:=(nV b)) (AA O) (AU O) O (Ad O) (AC.step (v:=(vN ((dg b.x).length))) (AA O) (AF O underlying93) O (Ad O) (AC.step (v:=(Value.bool (decide (i<((dg b.x).length))))) (AA O) (Ac (c:=(decide (i<((dg b.x).length)))) O O (CD (a:=i) (b:=(dg b.x).length))) O (Ad O) (AJ (v:=(Value.bool (decide (i<((dg b.x).length))))) (AT O O) O (AC.nil (OkQ.mid (sS O (sS O (sS O (sS O (sS O (sS O (sS O (sS O (sS O (sS O (sS (by first|rfl|(rw [hg1];rfl)|rw [hg1]) (sS (by first|rfl|(rw [hg1];rfl)|rw [hg1]) (sN))))))))))))) (List.Sublist.refl _)))))))
 refine AM O ?_
 refine AC.mid (FM:=[(0,(nV a)),(1,(nV b)),(4,(Value.slice none 0 0)),(6,(vN cy)),(7,(vN i)),(5,(Value.slice p i c)),(9,(vN i)),(10,(nV a)),(11,(vN ((dg a.x).length))),(12,(Value.bool (decide (i<((dg a.x).length))))),(13,(Value.bool (decide (i<((dg a.x).length))))),(18,(Value.bool ((decide (i<((dg a.x).length)))||(decide (i<((dg b.x).length)))))),(19,(Value.bool ((decide (i<((dg a.x).length)))||(decide (i<((dg b.x).length)))))),(22,(Value.bool (((decide (i<((dg a.x).length)))||(decide (i<((dg b.x).length))))||(decide (0<cy)))))]) (LM:=[rowW p 3 1 i c (dgL ds),nA a,nA b]) 3 ?_ ?_
 ·rcases Bool.eq_false_or_eq_true ((decide (i<((dg a.x).length)))||(decide (i<((dg b.x).length)))) with hg2|hg2
  ·skip
   refine AC.retell (k:=19) (u:=Value.bool true) O (by rw [hg2]) ?_
   have hg2':=hg2
   simp only [Bool.and_eq_true,Bool.or_eq_true,Bool.and_eq_false_iff,Bool.or_eq_false_iff,Bool.not_eq_true',Bool.not_eq_false',decide_eq_true_eq,decide_eq_false_iff_not] at hg2'
   exact AC.skip (AH O) O (Ad O) (AC.skip (AH O) O (Ad O) (AJ (v:=(Value.bool true)) (AW O O) O (AC.nil (OkQ.mid (sS O (sS O (sS O (sS O (sS O (sS O (sS O (sS O (sS O (sS O (sS O (sS O (sS (by first|rfl|(rw [hg2];rfl)|rw [hg2]) (sS (by first|rfl|(rw [hg2];rfl)|rw [hg2]) (sN))))))))))))))) (List.Sublist.refl _)))))
  ·skip
   refine AC.retell (k:=19) (u:=Value.bool false) O (by rw [hg2]) ?_
   have hg2':=hg2
   simp only [Bool.and_eq_true,Bool.or_eq_true,Bool.and_eq_false_iff,Bool.or_eq_false_iff,Bool.not_eq_true',Bool.not_eq_false',decide_eq_true_eq,decide_eq_false_iff_not] at hg2'
   exact AC.step (v:=(vN cy)) (AA O) (AU O) O (Ad O) (AC.step (v:=(Value.bool (decide (0<cy)))) (AA O) (CY (c:=(decide (0<cy))) O O (CD (a:=0) (b:=cy))) O (Ad O) (AJ (v:=(Value.bool (decide (0<cy)))) (AT O O) O (AC.nil (OkQ.mid (sS O (sS O (sS O (sS O (sS O (sS O (sS O (sS O (sS O (sS O (sS O (sS O (sS (by first|rfl|(rw [hg2];rfl)|rw [hg2]) (sS (by first|rfl|(rw [hg2];rfl)|rw [hg2]) (sN))))))))))))))) (List.Sublist.refl _)))))
 refine AC.nil (OkQ.subF (sL [0,1,4,6,7,5,22] O) (OkQ.then_ ?_))
 refine AE.cond O (λhc0=>?_) (λhc0=>?_)
 ·simp only [Bool.and_eq_true,Bool.or_eq_true,Bool.and_eq_false_iff,Bool.or_eq_false_iff,Bool.not_eq_true',Bool.not_eq_false',decide_eq_true_eq,decide_eq_false_iff_not] at hc0
  refine AE.skip (q1 (AE.block (q4 (AM O (AM O ?_)))))
  have hz1:=Gd a.x i
  refine DS call151 (λw hw=>M6 a i Z w (hw.holds (i:=1) O)) O (AM O (AM O ?_))
  have hz2:=Gd b.x i
  refine DS call151 (λw hw=>M6 b i Z w (hw.holds (i:=2) O)) O (AJ (AQ (c:=((((dg a.x).getD i 0)+((dg b.x).getD i 0):Nat):Int)) O O (AN (a:=(dg a.x).getD i 0) (b:=(dg b.x).getD i 0) Z)) O (AM O (AJ (AQ (c:=(((((dg a.x).getD i 0)+((dg b.x).getD i 0))+cy:Nat):Int)) O O (AN (a:=((dg a.x).getD i 0)+((dg b.x).getD i 0)) (b:=cy) Z)) O (AI O (q3 (sL [0,1,4,6,7,5,8] O) (AM O (AM O (AJ (Bg (c:=((((((dg a.x).getD i 0)+((dg b.x).getD i 0))+cy)%10000:Nat):Int)) O O Z (F3 (a:=(((dg a.x).getD i 0)+((dg b.x).getD i 0))+cy) (b:=10000))) O (AC.openV (V:=λb1=>(Value.slice (some ⟨b1,0,none⟩) 1 1)) (T:=3) (cs:=[(vN (((((dg a.x).getD i 0)+((dg b.x).getD i 0))+cy)%10000))]) (AP O) (Ai (cs:=[(vN (((((dg a.x).getD i 0)+((dg b.x).getD i 0))+cy)%10000))]) (pv:=[(0,(vN (((((dg a.x).getD i 0)+((dg b.x).getD i 0))+cy)%10000)))]) underlying93 sizeOf3 zeroValue3 (by decide) (by decide) O (by kernel_rfl)) O (Ad O) λb1=>AC.append1 (j:=0) (cs2:=dgL (ds++[((((dg a.x).getD i 0)+((dg b.x).getD i 0))+cy)%10000])) Um O ho (by simp [CT];omega) O O O O (by decide) (FE Z) Z (by rw [Eu];rfl) O λp_1 c_1 ho_1 hne_1=>AI O ?_)))))))))
  refine AC.nil (OkQ.subF (sL [0,1,4,6,7,5,8] O) (OkQ.then_ (AE.region (AM O (AJ (Dm (c:=((((((dg a.x).getD i 0)+((dg b.x).getD i 0))+cy)/10000:Nat):Int)) O O Z (E5 (a:=(((dg a.x).getD i 0)+((dg b.x).getD i 0))+cy) (b:=10000) Z)) O (AI O (AC.nil (OkQ.subF (sL [0,1,4,6,7,5,8] O) (OkQ.in_normal (OkQ.then_ (AE.region ?_)))))))))))
  refine AM O (AJ (AQ (c:=((i+1:Nat):Int)) O O (AN (a:=i) (b:=1) Z)) O (AI O (AC.nil (OkQ.subF (sL [0,1,4,6,7,5,8] O) ?_))))
  have hnx:i+1<=max (dg a.x).length (dg b.x).length\/i+1<=max (dg a.x).length (dg b.x).length+1/\((dg a.x).getD i 0+(dg b.x).getD i 0+cy)/10000=0:=by
            by_cases hi:i<max (dg a.x).length (dg b.x).length
            ·exact .inl Z
            ·refine .inr ⟨Z,?_⟩
             rw [Dg (show ¬i<(dg a.x).length by omega),Dg (show ¬i<(dg b.x).length by omega)]
             omega
  exact OkQ.round5 (i+1) (((dg a.x).getD i 0+(dg b.x).getD i 0+cy)/10000) p_1 c_1 (ds++[((dg a.x).getD i 0+(dg b.x).getD i 0+cy)%10000]) (⟨O8 hdd Z,by simp [hk],ho_1,Z,by rw [B0,B0];exact WJ hk hv O,hnx⟩) Z (sF O) (sl sr)
 ·simp only [Bool.and_eq_true,Bool.or_eq_true,Bool.and_eq_false_iff,Bool.or_eq_false_iff,Bool.not_eq_true',Bool.not_eq_false',decide_eq_true_eq,decide_eq_false_iff_not] at hc0
  have hfin:val10 ds=a.x+b.x:=by rw [Cs Z,Cs Z,Cn,Cn,show cy=0 by omega] at hv;simpa using hv
  exact AE.exit (OkQ.then_exit (OkQ.round5_exit (OkQ.in_exit (q2 (AM O (DS (args:=[(Value.slice p i c)]) (v:=(Value.slice p ((dg (val10 ds)).length) c)) call152 (λw hw=>(by have h9:=GV p c ds hdd (by rw [<-hk];exact ho.row) Z w (Kz (hw.holds (i:=0) O) ho hk);rw [<-hk] at h9;exact h9)) O (AI O (AC.nil (OkQ.subF (sL [0,1,4,6,7,5] O) (OkQ.then_ (AE.ret (AV O (Ah (v:=(Value.slice p ((dg (val10 ds)).length) c)) O) (λw hw=>Vy hw (i:=0) O ho hk (by rw [<-hfin];exact FW hdd) (by rw [hfin]))))))))))))))
theorem Qk (a b:NV) (hab:b.x<=a.x) (hla:(dg a.x).length<=549755813888) (w:World) (ha:Holds w (nA a)) (hb:Holds w (nA b)):Calls prog 132 #[(nV a),(nV b)] w (GE w [] (a.x-b.x)):=by
 have hlb:=IG hab
 refine An (args:=[(nV a),(nV b)]) (L:=[nA a,nA b]) func132 O O (Ad O) (CJ O ha (CJ O hb (BA))) (AE.subF (sL [0,1] O) (q4 (AI O (AC.nil (q2 (AI O (AC.nilRow 3 1 (AC.nil (q2 (AI O (AC.nil ?_)))))))))))
 refine q1 (q4 (AI O (AC.nil (OkQ.then_ (AE.block ?_)))))
 refine AE.lp5 (tg λ(i:Nat) (ld:Nat) (p:Option Addr) (c:Nat) (ds:List Nat)=>JI ds/\i=ds.length/\OwnOk p i c/\ld<=1/\val10 ds+val10 ((dg b.x).take i)=val10 ((dg a.x).take i)+10000^i*ld/\i<=(dg a.x).length) (tg λ(i:Nat) (ld:Nat) (p:Option Addr) (c:Nat) (ds:List Nat)=>[(0,(nV a)),(1,(nV b)),(4,(Value.slice none 0 0)),(6,(vN ld)),(7,(vN i)),(5,(Value.slice p i c))]) (tg λ(i:Nat) (ld:Nat) (p:Option Addr) (c:Nat) (ds:List Nat)=>[rowW p 3 1 i c (dgL ds),nA a,nA b]) (tg λ(i:Nat) (ld:Nat) (p:Option Addr) (c:Nat) (ds:List Nat)=>(dg a.x).length-i) 0 0 none 0 ([]) (⟨R5,rfl,OwnOk.none,Z,rfl,Z⟩) (sF O) sr (λi ld p c ds hJ=>?_)
 obtain ⟨hdd,hk,ho,hcy,hv,hm⟩:=hJ
 have ga:=Gd a.x i
 have gb:=Gd b.x i
 refine AE.seq (q4 (AM O (AM O (AJ (v:=(vN ((dg a.x).length))) (AF O underlying93) O (AJ (Ac (c:=(decide (i<((dg a.x).length)))) O O (CD (a:=i) (b:=(dg a.x).length))) O (AC.nil (OkQ.subF (sL [0,1,4,6,7,5,12] O) (OkQ.then_ ?_))))))))
 refine AE.cond O (λhc0=>?_) (λhc0=>?_)
 ·replace hc0:=of_decide_eq_true hc0
  refine AE.skip (q1 (AE.block (AE.seq (Ck [(0,true),(1,true),(2,true),(3,true),(4,true),(5,true),(8,true),(6,false),(7,true),(9,true),(10,true)] sr (BT O (BT O (Ao (v:=(pP (pB a.p) (pO a.p+i*1))) O (AG (j:=i) O O a.ok underlying93 sizeOf3 O Z) (Ao O (AL (v:=(vN ((dg a.x).getD i 0))) (i:=1) O O (a.ok.ne Z) BY (Dn (ds:=dg a.x) (j:=i) Z)) (BT O (BT O (BT O ?_)))))))))))
  refine OkE.imp O ?_
  have hz1:=Gd b.x i
  refine DS call151 (λw hw=>M6 b i Z w (hw.holds (i:=2) O)) O (OkE.back sr (Ao O (BU (c:=((((dg a.x).getD i 0:Nat):Int)-(((dg b.x).getD i 0:Nat):Int))) O O (Ay Z Z)) (Ao O (BU (c:=((((dg a.x).getD i 0:Nat):Int)-(((dg b.x).getD i 0:Nat):Int)-(ld:Int))) O O (Ay Z Z)) (pS' O (OkE.nil (OkQ.subF (sL [0,1,4,6,7,5,8] O) (q2 (AI O (AC.nil (q1 (q4 ?_)))))))))))
  refine AM O (AJ (Ac (c:=(decide (((((dg a.x).getD i 0:Nat):Int)-(((dg b.x).getD i 0:Nat):Int)-(ld:Int))<(0:Int)))) O O O) O (AC.nil (OkQ.subF (sL [0,1,4,6,7,5,8,26] O) (OkQ.then_ ?_))))
  refine AE.jn2 (tg λ(d:Nat) (ld2:Nat)=>d<10000/\ld2<=1/\d+(dg b.x).getD i 0+ld=(dg a.x).getD i 0+10000*ld2) (tg λ(d:Nat) (ld2:Nat)=>[(0,(nV a)),(1,(nV b)),(4,(Value.slice none 0 0)),(7,(vN i)),(5,(Value.slice p i c)),(8,(vN d)),(6,(vN ld2))]) (tg λ(d:Nat) (ld2:Nat)=>[rowW p 3 1 i c (dgL ds),nA a,nA b]) ?_ ?_
  ·skip
   refine AE.cond O (λhc1=>?_) (λhc1=>?_)
   ·replace hc1:=of_decide_eq_true hc1
    exact q4 (AM O (AJ (AQ (c:=(((dg a.x).getD i 0+10000-(dg b.x).getD i 0-ld:Nat):Int)) O O (by rw [Ay Z Z];omega)) O (AI O (AC.nil (OkQ.subF (sL [0,1,4,6,7,5,8] O) (OkQ.then_ (AE.region (AI O (AC.nil (OkQ.join2 ((dg a.x).getD i 0+10000-(dg b.x).getD i 0-ld) 1 (⟨Z,Z,Z⟩) (sF O) sr))))))))))
   ·replace hc1:=of_decide_eq_false hc1
    exact AE.retell (k:=8) (u:=(vN ((dg a.x).getD i 0-(dg b.x).getD i 0-ld))) O (by show Value.int _ _=Value.int _ _;congr 1;omega) (AE.skip (OkQ.join2 ((dg a.x).getD i 0-(dg b.x).getD i 0-ld) 0 (⟨Z,Z,Z⟩) (sF O) sr))
  ·intro d ld2 hJ
   obtain ⟨hd,hl2,hd2⟩:=hJ
   refine OkQ.then_ (AE.region (AM O (AM O (AC.openV (V:=λb1=>(Value.slice (some ⟨b1,0,none⟩) 1 1)) (T:=3) (cs:=[(vN d)]) (AP O) (Ai (cs:=[(vN d)]) (pv:=[(0,(vN d))]) underlying93 sizeOf3 zeroValue3 (by decide) (by decide) O (by kernel_rfl)) O (Ad O) λb1=>AC.append1 (j:=0) (cs2:=dgL (ds++[d])) Um O ho (by simp [CT];omega) O O O O (by decide) (FE Z) Z (by rw [Eu];rfl) O λp_1 c_1 ho_1 hne_1=>AI O (AC.nil (OkQ.subF (sL [0,1,4,7,5,8,6] O) (OkQ.in_normal (OkQ.then_ (AE.region ?_)))))))))
   exact AM O (AJ (AQ (c:=((i+1:Nat):Int)) O O (AN (a:=i) (b:=1) Z)) O (AI O (AC.nil (OkQ.subF (sL [0,1,4,7,5,8,6] O) (OkQ.round5 (i+1) ld2 p_1 c_1 (ds++[d]) (⟨O8 hdd Z,by simp [hk],ho_1,Z,by rw [B0,B0];exact NH hk hv hd2,Z⟩) Z (sF O) (sl sr))))))
 ·replace hc0:=of_decide_eq_false hc0
  have hfin:val10 ds=a.x-b.x:=by
   rw [Cs Z,Cs Z,Cn,Cn] at hv
   exact OS hdd hk Z hab hv
  exact AE.exit (OkQ.then_exit (OkQ.round5_exit (OkQ.in_exit (q2 (AM O (DS (args:=[(Value.slice p i c)]) (v:=(Value.slice p ((dg (val10 ds)).length) c)) call152 (λw hw=>(by have h9:=GV p c ds hdd (by rw [<-hk];exact ho.row) Z w (Kz (hw.holds (i:=0) O) ho hk);rw [<-hk] at h9;exact h9)) O (AI O (AC.nil (OkQ.subF (sL [0,1,4,6,7,5] O) (OkQ.then_ (AE.ret (AV O (Ah (v:=(Value.slice p ((dg (val10 ds)).length) c)) O) (λw hw=>Vy hw (i:=0) O ho hk (by rw [<-hfin];exact FW hdd) (by rw [hfin]))))))))))))))
theorem Q5 (a b:NV) (hla:(dg a.x).length<=549755813888) (hlb:(dg b.x).length<=549755813888) (w:World) (ha:Holds w (nA a)) (hb:Holds w (nA b)):Calls prog 153 #[(nV a),(nV b)] w (A9 w (vI (DP a.x b.x))):=by
 refine An (args:=[(nV a),(nV b)]) (L:=[nA a,nA b]) func153 O O (Ad O) (CJ O ha (CJ O hb (BA))) (AE.subF (sL [0,1] O) (q4 (AI O (AC.nil (q1 (q4 (AM O (AJ (v:=(vN ((dg a.x).length))) (AF O underlying93) O (AM O (AJ (v:=(vN ((dg b.x).length))) (AF O underlying93) O (AJ (Ac (c:=(decide (((dg a.x).length)<((dg b.x).length)))) O O (CD (a:=(dg a.x).length) (b:=(dg b.x).length))) O ?_)))))))))))
 refine AC.nil (OkQ.subF (sL [0,1,4,10] O) (OkQ.then_ ?_))
 refine AE.cond O (λhc0=>?_) (λhc0=>?_)
 ·replace hc0:=of_decide_eq_true hc0
  have hz:DP a.x b.x = -1:=if_pos (L8 hc0)
  exact q4 (AI O (AC.nil (OkQ.then_ (AE.ret (OkQ.then_ret (AV O (Ah (v:=(vI (-1:Int))) O) (λw hw=>⟨by rw [hz],hw.out⟩)))))))
 ·replace hc0:=of_decide_eq_false hc0
  refine AE.skip (q1 (q4 (AM O (AJ (v:=(vN ((dg a.x).length))) (AF O underlying93) O (AM O (AJ (v:=(vN ((dg b.x).length))) (AF O underlying93) O (AJ (CY (c:=(decide (((dg b.x).length)<((dg a.x).length)))) O O (CD (a:=(dg b.x).length) (b:=(dg a.x).length))) O (AC.nil (OkQ.subF (sL [0,1,4,15] O) (OkQ.then_ ?_))))))))))
  refine AE.cond O (λhc1=>?_) (λhc1=>?_)
  ·replace hc1:=of_decide_eq_true hc1
   have hz:DP a.x b.x=1:=by
      have h9:=L8 hc1
      unfold DP;rw [if_neg Z,if_neg Z]
   exact q4 (AI O (AC.nil (OkQ.then_ (AE.ret (OkQ.then_ret (AV O (Ah (v:=(vI 1)) O) (λw hw=>⟨by rw [hz],hw.out⟩)))))))
  ·replace hc1:=of_decide_eq_false hc1
   refine AE.skip (q1 (q4 (AM O (AJ (v:=(vN ((dg a.x).length))) (AF O underlying93) O (AJ (BU (c:=((((dg a.x).length:Nat):Int)-1)) O O (Ay Z Z)) O (AI O (AC.nil (OkQ.subF (sL [0,1,4,5] O) (OkQ.then_ (AE.block ?_))))))))))
   refine AE.lp1 (tg λ(j:Nat)=>j<=(dg a.x).length/\(dg a.x).drop j=(dg b.x).drop j) (tg λ(j:Nat)=>[(0,(nV a)),(1,(nV b)),(5,(vI (((j:Nat):Int)-1)))]) (tg λ(j:Nat)=>[nA a,nA b]) (tg λ(j:Nat)=>j) ((dg a.x).length) (⟨Nat.le_refl _,by rw [List.drop_length,List.drop_of_length_le Z]⟩) (sF O) sr (λj hJ=>?_)
   obtain ⟨hm,hd⟩:=hJ
   have hl:(dg a.x).length=(dg b.x).length:=by omega
   refine AE.seq (q4 (AM O (AJ (DR (c:=(decide ((0:Int)<=(((j:Nat):Int)-1)))) O O O) O (AC.nil (OkQ.subF (sL [0,1,5,20] O) (OkQ.then_ ?_))))))
   refine AE.cond O (λhc2=>?_) (λhc2=>?_)
   ·replace hc2:=of_decide_eq_true hc2
    have hdj:(dg a.x).drop (j-1+1)=(dg b.x).drop (j-1+1):=by rw [Nat.sub_add_cancel Z];exact hd
    refine AE.retell (k:=5) (u:=(vN (j-1))) O (by show Value.int _ _=Value.int _ _;congr 1;omega) (AE.skip (q1 (AE.block (AE.seq (AE.seq (Ck [(0,true),(1,true),(2,true),(3,true),(4,true),(5,true),(6,true),(7,true),(8,true)] sr (BT O (BT O (Ao (v:=(pP (pB a.p) (pO a.p+(j-1)*1))) O (AG (j:=j-1) O O a.ok underlying93 sizeOf3 O Z) (Ao O (AL (v:=(vN ((dg a.x).getD (j-1) 0))) (i:=0) O O (a.ok.ne Z) BY (Dn (ds:=dg a.x) (j:=j-1) Z)) (BT O ?_)))))))))))
    refine BT O (Ao (v:=(pP (pB b.p) (pO b.p+(j-1)*1))) O (AG (j:=j-1) O O b.ok underlying93 sizeOf3 O Z) (Ao O (AL (v:=(vN ((dg b.x).getD (j-1) 0))) (i:=1) O O (b.ok.ne Z) BY (Dn (ds:=dg b.x) (j:=j-1) Z)) (Ao O (Ac (c:=(decide (((dg a.x).getD (j-1) 0)<((dg b.x).getD (j-1) 0)))) O O (CD (a:=(dg a.x).getD (j-1) 0) (b:=(dg b.x).getD (j-1) 0))) (OkE.nil (OkQ.subF (sL [0,1,5,31] O) (OkQ.then_ ?_))))))
    refine AE.cond O (λhc3=>?_) (λhc3=>?_)
    ·replace hc3:=of_decide_eq_true hc3
     have hz:DP a.x b.x = -1:=if_pos (Vc hl Z hdj hc3)
     exact q4 (AI O (AC.nil (OkQ.then_ (AE.ret (OkQ.then_ret (OkQ.in_ret (OkQ.then_ret (OkQ.round1_ret (OkQ.in_ret (OkQ.then_ret (AV O (Ah (v:=(vI (-1:Int))) O) (λw hw=>⟨by rw [hz],hw.out⟩))))))))))))
    ·replace hc3:=of_decide_eq_false hc3
     refine AE.skip (q1 (Ck [(0,true),(1,true),(2,true),(3,true),(4,true),(5,true),(6,true),(7,true),(8,true)] sr (BT O (BT O (Ao (v:=(pP (pB a.p) (pO a.p+(j-1)*1))) O (AG (j:=j-1) O O a.ok underlying93 sizeOf3 O Z) (Ao O (AL (v:=(vN ((dg a.x).getD (j-1) 0))) (i:=0) O O (a.ok.ne Z) BY (Dn (ds:=dg a.x) (j:=j-1) Z)) (BT O (BT O (Ao (v:=(pP (pB b.p) (pO b.p+(j-1)*1))) O (AG (j:=j-1) O O b.ok underlying93 sizeOf3 O Z) (Ao O (AL (v:=(vN ((dg b.x).getD (j-1) 0))) (i:=1) O O (b.ok.ne Z) BY (Dn (ds:=dg b.x) (j:=j-1) Z)) (Ao O (CY (c:=(decide (((dg b.x).getD (j-1) 0)<((dg a.x).getD (j-1) 0)))) O O (CD (a:=(dg b.x).getD (j-1) 0) (b:=(dg a.x).getD (j-1) 0))) ?_)))))))))))
     refine OkE.nil (OkQ.subF (sL [0,1,5,40] O) (OkQ.then_ ?_))
     refine AE.cond O (λhc4=>?_) (λhc4=>?_)
     ·replace hc4:=of_decide_eq_true hc4
      have hz:DP a.x b.x=1:=by
        have h9:=Vc hl.symm Z hdj.symm hc4
        unfold DP;rw [if_neg Z,if_neg Z]
      exact q4 (AI O (AC.nil (OkQ.then_ (AE.ret (OkQ.in_ret (OkQ.then_ret (OkQ.round1_ret (OkQ.in_ret (OkQ.then_ret (AV O (Ah (v:=(vI 1)) O) (λw hw=>⟨by rw [hz],hw.out⟩)))))))))))
     ·replace hc4:=of_decide_eq_false hc4
      exact AE.skip (OkQ.in_normal (OkQ.then_ (AE.region (AM O (AJ (BU (c:=(((j-1:Nat):Int)-1)) O O (Ay Z Z)) O (AI O (AC.nil (OkQ.subF (sL [0,1,5] O) (OkQ.round1 (j-1) (⟨Z,N3 hl Z hdj Z⟩) Z (sF O) sr)))))))))
   ·replace hc2:=of_decide_eq_false hc2
    obtain rfl:j=0:=by omega
    have hz:DP a.x b.x=0:=NO.2 (Z9 hd)
    exact AE.exit (OkQ.then_exit (OkQ.round1_exit (OkQ.in_exit (q2 (AI O (AC.nil (OkQ.then_ (AE.ret (AV O (Ah (v:=(vI 0)) O) (λw hw=>⟨by rw [hz],hw.out⟩))))))))))
end
section
set_option maxRecDepth 100000
theorem a9:Ix prog 93 3 (vN 0) 8:=⟨underlying93,_,_,rfl,rfl,rfl,rfl,rfl⟩
theorem OA (a:NV) (k:Nat) (hk:k<=1099511627776) (hla:(dg a.x).length<=1099511627776) (hv:a.x/10000^k<9223372036854775808) (w:World) (ha:Holds w (nA a)):Calls prog 154 #[(nV a),(vN k)] w (A9 w (vN (a.x/10000^k))):=by
 refine An (args:=[(nV a),(vN k)]) (L:=[nA a]) func154 O O (Ad O) (CJ O ha (BA)) (AE.subF (sL [0,1] O) (q4 (AI O (AC.nil (q2 (AI O (AC.nil (q1 (q4 (AM O (AJ (v:=(vN ((dg a.x).length))) (AF O underlying93) O ?_)))))))))))
 refine AJ (BU (c:=((((dg a.x).length:Nat):Int)-1)) O O (Ay Z Z)) O (AI O (AC.nil (OkQ.subF (sL [0,1,4,5,6] O) (OkQ.then_ (AE.block ?_)))))
 refine AE.lp2 (tg λ(n:Nat) (j:Nat)=>j<=(dg a.x).length/\(k<=j\/j=(dg a.x).length)/\n=a.x/10000^j) (tg λ(n:Nat) (j:Nat)=>[(0,(nV a)),(1,(vN k)),(4,(vI 0)),(5,(vN n)),(6,(vI (((j:Nat):Int)-1)))]) (tg λ(n:Nat) (j:Nat)=>[nA a]) (tg λ(n:Nat) (j:Nat)=>j) 0 ((dg a.x).length) (⟨Nat.le_refl _,.inr O,(Ts a.x).symm⟩) (sF O) sr (λn j hJ=>?_)
 obtain ⟨hm,hkj,hn⟩:=hJ
 refine AE.seq (q4 (AM O (AM O (AJ (DR (c:=(decide (((k:Nat):Int)<=(((j:Nat):Int)-1)))) O O O) O (AC.nil (OkQ.subF (sL [0,1,4,5,6,12] O) (OkQ.then_ ?_)))))))
 refine AE.cond O (λhc0=>?_) (λhc0=>?_)
 ·replace hc0:=of_decide_eq_true hc0
  have hj1:1<=j:=by omega
  have hst:=Q0 a.x (j-1)
  rw [Nat.sub_add_cancel hj1,<-hn] at hst
  have hle:=KQ a.x (show k<=j-1 by omega)
  refine AE.retell (k:=6) (u:=(vN (j-1))) O (by show Value.int _ _=Value.int _ _;congr 1;omega) (AE.skip (q1 (AE.block (AE.region (AM O (AJ (Bs (c:=((10000*n:Nat):Int)) O O (Cm (a:=10000) (b:=n) Z)) O (AM O (AM O (AJ (v:=(pP (pB a.p) (pO a.p+(j-1)*1))) (AG (j:=j-1) O O a.ok underlying93 sizeOf3 O Z) O (AJ (AL (v:=(vN ((dg a.x).getD (j-1) 0))) (i:=0) O O (a.ok.ne Z) BY (Dn (ds:=dg a.x) (j:=j-1) Z)) O (AJ (AQ (c:=(((10000*n)+((dg a.x).getD (j-1) 0):Nat):Int)) O O (AN (a:=10000*n) (b:=(dg a.x).getD (j-1) 0) Z)) O ?_)))))))))))
  exact AI O (AC.nil (OkQ.subF (sL [0,1,4,5,6] O) (OkQ.in_normal (OkQ.then_ (AE.region (AM O (AJ (BU (c:=(((j-1:Nat):Int)-1)) O O (Ay Z Z)) O (AI O (AC.nil (OkQ.subF (sL [0,1,4,5,6] O) (OkQ.round2 ((10000*n)+((dg a.x).getD (j-1) 0)) (j-1) (⟨Z,Z,Z⟩) Z (sF O) sr)))))))))))
 ·replace hc0:=of_decide_eq_false hc0
  have hfin:n=a.x/10000^k:=O_ hn hkj Z
  exact AE.exit (OkQ.then_exit (OkQ.round2_exit (OkQ.in_exit (q2 (AM O (AI O (AC.nil (OkQ.subF (sL [0,1,4,5,6] O) (OkQ.then_ (AE.ret (AV O (Ah (v:=(vN n)) O) (λw hw=>⟨by rw [hfin],hw.out⟩))))))))))))
theorem NI (a b:NV) (hla:(dg a.x).length<=549755813888) (hlb:(dg b.x).length<=549755813888) (w:World) (ha:Holds w (nA a)) (hb:Holds w (nA b)):Calls prog 129 #[(nV a),(nV b)] w (GE w [] (a.x*b.x)):=by
 refine An (args:=[(nV a),(nV b)]) (L:=[nA a,nA b]) func129 O O (Ad O) (CJ O ha (CJ O hb (BA))) (AE.subF (sL [0,1] O) (q4 (AI O (AC.nil (q2 (AM O (AJ (v:=(vN ((dg a.x).length))) (AF O underlying93) O (AM O (AJ (v:=(vN ((dg b.x).length))) (AF O underlying93) O (AJ (AQ (c:=((((dg a.x).length)+((dg b.x).length):Nat):Int)) O O (AN (a:=(dg a.x).length) (b:=(dg b.x).length) Z)) O (AC.makeDig (m:=((dg a.x).length)+((dg b.x).length)) a9 O O Z O O λb1 ho_b1=>?_)))))))))))
 refine AI O (q6 (sL [0,1,4,5] O) (q4 (AI O (AC.nil (OkQ.then_ (AE.block ?_))))))
 refine AE.lp2 (tg λ(i:Nat) (ds:List Nat)=>JI ds/\(dg a.x).length+(dg b.x).length=ds.length/\i<=(dg a.x).length/\val10 ds=val10 ((dg a.x).take i)*b.x) (tg λ(i:Nat) (ds:List Nat)=>[(0,(nV a)),(1,(nV b)),(4,(Value.slice none 0 0)),(5,(Value.slice (some ⟨b1,0,none⟩) (((dg a.x).length)+((dg b.x).length)) (((dg a.x).length)+((dg b.x).length)))),(6,(vN i))]) (tg λ(i:Nat) (ds:List Nat)=>[rowW (some ⟨b1,0,none⟩) 3 1 ((dg a.x).length+(dg b.x).length) ((dg a.x).length+(dg b.x).length) (dgL ds),nA a,nA b]) (tg λ(i:Nat) (ds:List Nat)=>(dg a.x).length-i) 0 (List.replicate ((dg a.x).length+(dg b.x).length) 0) (⟨Li _,by simp,Nat.zero_le _,by rw [I0];simp [val10]⟩) (sF O) sr (λi ds hJ=>?_)
 obtain ⟨hdd,hk,hm,hv⟩:=hJ
 have ga:=Gd a.x i
 refine AE.seq (q4 (AM O (AM O (AJ (v:=(vN ((dg a.x).length))) (AF O underlying93) O (AJ (Ac (c:=(decide (i<((dg a.x).length)))) O O (CD (a:=i) (b:=(dg a.x).length))) O (AC.nil (OkQ.subF (sL [0,1,4,5,6,19] O) (OkQ.then_ ?_))))))))
 refine AE.cond O (λhc0=>?_) (λhc0=>?_)
 ·replace hc0:=of_decide_eq_true hc0
  refine AE.skip (q1 (AE.block (q4 (AI O (AC.nil (q2 (AI O (AC.nil (OkQ.then_ (AE.block ?_))))))))))
  refine AE.lp3 (tg λ(cy:Nat) (k:Nat) (es:List Nat)=>JI es/\(dg a.x).length+(dg b.x).length=es.length/\cy<10000/\(k<=(dg b.x).length\/k=(dg b.x).length+1/\cy=0)/\val10 es+10000^(i+k)*cy=val10 ds+10000^i*(dg a.x).getD i 0*val10 ((dg b.x).take k)) (tg λ(cy:Nat) (k:Nat) (es:List Nat)=>[(0,(nV a)),(1,(nV b)),(4,(Value.slice none 0 0)),(5,(Value.slice (some ⟨b1,0,none⟩) (((dg a.x).length)+((dg b.x).length)) (((dg a.x).length)+((dg b.x).length)))),(6,(vN i)),(7,(vN cy)),(8,(vN k))]) (tg λ(cy:Nat) (k:Nat) (es:List Nat)=>[rowW (some ⟨b1,0,none⟩) 3 1 ((dg a.x).length+(dg b.x).length) ((dg a.x).length+(dg b.x).length) (dgL es),nA a,nA b]) (tg λ(cy:Nat) (k:Nat) (es:List Nat)=>(dg b.x).length+2-k) 0 0 ds (⟨hdd,hk,Z,.inl (Nat.zero_le _),by simp [val10]⟩) (sF O) sr (λcy k es hJ=>?_)
  obtain ⟨hee,hke,hcy,hme,hve⟩:=hJ
  have gb:=Gd b.x k
  have ge:=Yl hee (i+k)
  have hbd:=TD ge ga gb hcy
  have hab:(dg a.x).getD i 0*(dg b.x).getD k 0<=9999*9999:=Nat.mul_le_mul Z Z
  refine AE.seq (q4 (AM O (AM O (AJ (v:=(vN ((dg b.x).length))) (AF O underlying93) O (AJ (Ac (c:=(decide (k<((dg b.x).length)))) O O (CD (a:=k) (b:=(dg b.x).length))) O (AM O ?_))))))
  refine AC.mid (FM:=[(0,(nV a)),(1,(nV b)),(4,(Value.slice none 0 0)),(5,(Value.slice (some ⟨b1,0,none⟩) (((dg a.x).length)+((dg b.x).length)) (((dg a.x).length)+((dg b.x).length)))),(6,(vN i)),(7,(vN cy)),(8,(vN k)),(22,(vN k)),(23,(nV b)),(24,(vN ((dg b.x).length))),(25,(Value.bool (decide (k<((dg b.x).length))))),(26,(Value.bool (decide (k<((dg b.x).length))))),(29,(Value.bool ((decide (k<((dg b.x).length)))||(decide (0<cy)))))]) (LM:=[rowW (some ⟨b1,0,none⟩) 3 1 ((dg a.x).length+(dg b.x).length) ((dg a.x).length+(dg b.x).length) (dgL es),nA a,nA b]) 3 ?_ ?_
  ·rcases Bool.eq_false_or_eq_true (decide (k<((dg b.x).length))) with hg1|hg1
   ·skip
    refine AC.retell (k:=26) (u:=Value.bool true) O (by rw [hg1]) ?_
    have hg1':=hg1
    replace hg1':=of_decide_eq_true hg1'
    exact AC.skip (AH O) O (Ad O) (AC.skip (AH O) O (Ad O) (AJ (v:=(Value.bool true)) (AW O O) O (AC.nil (OkQ.mid (sS O (sS O (sS O (sS O (sS O (sS O (sS O (sS O (sS O (sS O (sS O (sS (by first|rfl|(rw [hg1];rfl)|rw [hg1]) (sS (by first|rfl|(rw [hg1];rfl)|rw [hg1]) (sN)))))))))))))) (List.Sublist.refl _)))))
   ·skip
    refine AC.retell (k:=26) (u:=Value.bool false) O (by rw [hg1]) ?_
    have hg1':=hg1
    replace hg1':=of_decide_eq_false hg1'
    exact AC.step (v:=(vN cy)) (AA O) (AU O) O (Ad O) (AC.step (v:=(Value.bool (decide (0<cy)))) (AA O) (CY (c:=(decide (0<cy))) O O (CD (a:=0) (b:=cy))) O (Ad O) (AJ (v:=(Value.bool (decide (0<cy)))) (AT O O) O (AC.nil (OkQ.mid (sS O (sS O (sS O (sS O (sS O (sS O (sS O (sS O (sS O (sS O (sS O (sS (by first|rfl|(rw [hg1];rfl)|rw [hg1]) (sS (by first|rfl|(rw [hg1];rfl)|rw [hg1]) (sN)))))))))))))) (List.Sublist.refl _)))))
  refine AC.nil (OkQ.subF (sL [0,1,4,5,6,7,8,29] O) (OkQ.then_ ?_))
  refine AE.cond O (λhc1=>?_) (λhc1=>?_)
  ·simp only [Bool.and_eq_true,Bool.or_eq_true,Bool.and_eq_false_iff,Bool.or_eq_false_iff,Bool.not_eq_true',Bool.not_eq_false',decide_eq_true_eq,decide_eq_false_iff_not] at hc1
   refine AE.skip (q1 (AE.block (AE.seq (Ck [(0,true),(1,true),(2,true),(3,true),(4,true),(5,true),(6,true),(7,true),(8,true),(9,true),(10,true),(11,true),(15,true),(12,false),(13,true),(14,true),(16,true),(17,true)] sr (BT O (BT O (BT O (Ao O (AQ (c:=((i+k:Nat):Int)) O O (AN (a:=i) (b:=k) Z)) (Ao (v:=(pP (pB (some ⟨b1,0,none⟩)) (pO (some ⟨b1,0,none⟩)+(i+k)*1))) O (AG (j:=i+k) O O ho_b1.row underlying93 sizeOf3 O Z) (Ao O (A7 (v:=(vN (es.getD (i+k) 0))) (i:=0) O O ho_b1 (by simp [CT];omega) (ho_b1.row.ne Z) BY (Dn (ds:=es) (j:=i+k) Z)) (BT O ?_)))))))))))
   refine BT O (Ao (v:=(pP (pB a.p) (pO a.p+i*1))) O (AG (j:=i) O O a.ok underlying93 sizeOf3 O Z) (Ao O (AL (v:=(vN ((dg a.x).getD i 0))) (i:=1) O O (a.ok.ne Z) BY (Dn (ds:=dg a.x) (j:=i) Z)) (BT O (BT O (BT O (OkE.imp O ?_))))))
   have hz1:=Gd b.x k
   refine DS call151 (λw hw=>M6 b k Z w (hw.holds (i:=2) O)) O (OkE.back sr (Ao O (Bs (c:=((((dg a.x).getD i 0)*((dg b.x).getD k 0):Nat):Int)) O O (Cm (a:=(dg a.x).getD i 0) (b:=(dg b.x).getD k 0) Z)) (Ao O (AQ (c:=(((es.getD (i+k) 0)+(((dg a.x).getD i 0)*((dg b.x).getD k 0)):Nat):Int)) O O (AN (a:=es.getD (i+k) 0) (b:=((dg a.x).getD i 0)*((dg b.x).getD k 0)) Z)) (Ao O (AQ (c:=((((es.getD (i+k) 0)+(((dg a.x).getD i 0)*((dg b.x).getD k 0)))+cy:Nat):Int)) O O (AN (a:=(es.getD (i+k) 0)+(((dg a.x).getD i 0)*((dg b.x).getD k 0))) (b:=cy) Z)) (pS' O (OkE.nil (OkQ.subF (sL [0,1,4,5,6,7,8,9] O) (q2 (AM O (AM O (AM O ?_)))))))))))
   refine AJ (AQ (c:=((i+k:Nat):Int)) O O (AN (a:=i) (b:=k) Z)) O (AM O (AJ (Bg (c:=(((((es.getD (i+k) 0)+(((dg a.x).getD i 0)*((dg b.x).getD k 0)))+cy)%10000:Nat):Int)) O O Z (F3 (a:=((es.getD (i+k) 0)+(((dg a.x).getD i 0)*((dg b.x).getD k 0)))+cy) (b:=10000))) O (AJ (v:=(pP (pB (some ⟨b1,0,none⟩)) (pO (some ⟨b1,0,none⟩)+(i+k)*1))) (AG (j:=i+k) O O ho_b1.row underlying93 sizeOf3 O Z) O (AC.storeRow0 (j:=i+k) (v:=(vN ((((es.getD (i+k) 0)+(((dg a.x).getD i 0)*((dg b.x).getD k 0)))+cy)%10000))) O O ho_b1 (by simp [CT];omega) Z O sizeOf3 O (Qw _ _ _) (AC.nil (OkQ.subF (sL [0,1,4,5,6,7,8,9] O) (OkQ.then_ (AE.region (AM O (AJ (Dm (c:=(((((es.getD (i+k) 0)+(((dg a.x).getD i 0)*((dg b.x).getD k 0)))+cy)/10000:Nat):Int)) O O Z (E5 (a:=((es.getD (i+k) 0)+(((dg a.x).getD i 0)*((dg b.x).getD k 0)))+cy) (b:=10000) Z)) O (AI O ?_)))))))))))
   refine AC.nil (OkQ.subF (sL [0,1,4,5,6,7,8,9] O) (OkQ.in_normal (OkQ.then_ (AE.region (AM O (AJ (AQ (c:=((k+1:Nat):Int)) O O (AN (a:=k) (b:=1) Z)) O (AI O (AC.nil (OkQ.subF (sL [0,1,4,5,6,7,8,9] O) ?_)))))))))
   have hnx:k+1<=(dg b.x).length\/k+1=(dg b.x).length+1/\(es.getD (i+k) 0+(dg a.x).getD i 0*(dg b.x).getD k 0+cy)/10000=0:=by
            by_cases hkb:k<(dg b.x).length
            ·exact .inl Z
            ·obtain rfl:k=(dg b.x).length:=by omega
             refine .inr ⟨rfl,?_⟩
             rw [Cs Z,Cn] at hve
             have h9:=WZ (hV:=YJ a.x b.x i hv) hve
             rw [Dg (show ¬(dg b.x).length<(dg b.x).length by omega),Nat.mul_zero,Nat.add_zero]
             omega
   exact OkQ.round3 ((((es.getD (i+k) 0)+(((dg a.x).getD i 0)*((dg b.x).getD k 0)))+cy)/10000) (k+1) (es.set (i+k) ((es.getD (i+k) 0+(dg a.x).getD i 0*(dg b.x).getD k 0+cy)%10000)) (⟨Ry hee Z,by simpa using hke,Z,hnx,by rw [B0];exact P_ Z hve O⟩) Z (sF O) sr
  ·simp only [Bool.and_eq_true,Bool.or_eq_true,Bool.and_eq_false_iff,Bool.or_eq_false_iff,Bool.not_eq_true',Bool.not_eq_false',decide_eq_true_eq,decide_eq_false_iff_not] at hc1
   have hve2:val10 es=val10 ((dg a.x).take (i+1))*b.x:=by
        rw [show cy=0 by omega,Cs Z,Cn,hv,Nat.mul_zero,Nat.add_zero] at hve
        rw [hve,B0,Nat.add_mul]
   exact AE.exit (OkQ.then_exit (OkQ.round3_exit (OkQ.in_exit (OkQ.in_normal (OkQ.then_ (AE.region (AM O (AJ (AQ (c:=((i+1:Nat):Int)) O O (AN (a:=i) (b:=1) Z)) O (AI O (AC.nil (OkQ.subF (sL [0,1,4,5,6,7,8] O) (OkQ.round2 (i+1) es (⟨hee,hke,Z,hve2⟩) Z (sF O) sr))))))))))))
 ·replace hc0:=of_decide_eq_false hc0
  have hfin:val10 ds=a.x*b.x:=by rw [hv,Cs Z,Cn]
  exact AE.exit (OkQ.then_exit (OkQ.round2_exit (OkQ.in_exit (q2 (AM O (DS (args:=[(Value.slice (some ⟨b1,0,none⟩) (((dg a.x).length)+((dg b.x).length)) (((dg a.x).length)+((dg b.x).length)))]) (v:=(Value.slice (some ⟨b1,0,none⟩) ((dg (val10 ds)).length) (((dg a.x).length)+((dg b.x).length)))) call152 (λw hw=>(by have h9:=GV (some ⟨b1,0,none⟩) (((dg a.x).length)+((dg b.x).length)) ds hdd (by rw [<-hk];exact ho_b1.row) Z w (Kz (hw.holds (i:=0) O) ho_b1 hk);rw [<-hk] at h9;exact h9)) O (AI O (AC.nil (OkQ.subF (sL [0,1,4,5,6] O) (OkQ.then_ (AE.ret (AV O (Ah (v:=(Value.slice (some ⟨b1,0,none⟩) ((dg (val10 ds)).length) (((dg a.x).length)+((dg b.x).length)))) O) (λw hw=>Vy hw (i:=0) O ho_b1 hk (by rw [<-hfin];exact FW hdd) (by rw [hfin]))))))))))))))
end
end Go.Proofs.YtpgncndhhhllfaaGreat
