import Derived.Test.YtpgncndhhhllfaaGreatPart03
import Derived.Test.YtpgncndhhhllfaaGreatPart05
import Derived.Test.YtpgncndhhhllfaaGreatPart06
import Derived.Test.YtpgncndhhhllfaaGreatPart16
import Derived.Test.YtpgncndhhhllfaaGreatPart40
namespace Go.Proofs.YtpgncndhhhllfaaGreat
open Go Go.RowKit Go.Proofs.Tryz
set_option linter.unusedVariables false
set_option linter.unusedSimpArgs false
section
set_option maxRecDepth 100000
theorem VP:ElemT prog 93 3 1 8:=⟨underlying93,Co (by kernel_rfl)⟩
theorem Fu (p:Option Addr) (c:Nat) (ds:List Nat) (hd:Il ds) (ho:Ar p ds.length c) (hl:ds.length<=1099511627776) (w:World) (h:Holds w (AJ p (dgL ds))):Calls prog 152 #[(Value.slice p ds.length c)] w (Ak w (Value.slice p ((dg (val10 ds)).length) c)):=by
 refine Ag (args:=[(Value.slice p ds.length c)]) (L:=[AJ p (dgL ds)]) func152 O O (AV O) (B8 O h (Ao)) (AE.subF (sL [0] O) (q4 (AI O (AC.nil (q1 (AE.block ?_))))))
 refine AE.lp1 (tg λ(k:Nat)=>k<=ds.length/\val10 (ds.take k)=val10 ds) (tg λ(k:Nat)=>[(2,(Value.slice none 0 0)),(0,(Value.slice p k c))]) (tg λ(k:Nat)=>[AJ p (dgL ds)]) (tg λ(k:Nat)=>k) ds.length (⟨Nat.le_refl _,by rw [List.take_length]⟩) (sF O) sr (λk hJ=>?_)
 obtain ⟨hk,hv⟩:=hJ
 have hok:Ar p k c:=⟨λe=>⟨by have:=(ho.nil e).1;omega,(ho.nil e).2⟩,ho.spot,Nat.le_trans hk ho.le⟩
 have hkc:=hok.le
 refine AE.seq (q4 (AM O (AK (v:=(vN k)) (AF O underlying93) O (AK (CC (c:=(decide (0<k))) O O (B7 (a:=0) (b:=k))) O (AM O ?_)))))
 refine AC.mid (FM:=[(2,(Value.slice none 0 0)),(0,(Value.slice p k c)),(3,(Value.slice p k c)),(4,(vN k)),(5,(Value.bool (decide (0<k)))),(6,(Value.bool (decide (0<k)))),(14,(Value.bool ((decide (0<k))&&(decide ((ds.getD (k-1) 0)=0)))))]) (LM:=[AJ p (dgL ds)]) 8 ?_ ?_
 ·rcases Bool.eq_false_or_eq_true (decide (0<k)) with hg1|hg1
  ·skip
   refine AC.retell (k:=6) (u:=Value.bool true) O (by rw [hg1]) ?_
   have hg1':=hg1
   replace hg1':=of_decide_eq_true hg1'
   exact AC.step (v:=(Value.slice p k c)) (AA O) (AW O) O (AV O) (AC.step (v:=(Value.slice p k c)) (AA O) (AW O) O (AV O) (AC.step (v:=(vN k)) (AA O) (AF O underlying93) O (AV O) (AC.step (v:=(vN (k-1))) (AA O) (BO (c:=((k-1:Nat):Int)) O O (Br (a:=k) (b:=1) Z Z)) O (AV O) (AC.step (v:=(pP (pB p) (pO p+(k-1)*1))) (AA O) (AH (j:=k-1) O O hok underlying93 sizeOf3 O Z) O (AV O) (AC.step (v:=(vN (ds.getD (k-1) 0))) (AA O) (AL (v:=(vN (ds.getD (k-1) 0))) (i:=0) O O (hok.ne Z) BR (DV (ds:=ds) (j:=k-1) Z)) O (AV O) (AC.step (v:=(Value.bool (decide ((ds.getD (k-1) 0)=0)))) (AA O) (BA (c:=(decide ((ds.getD (k-1) 0)=0))) O O (KW (a:=ds.getD (k-1) 0) (b:=0))) O (AV O) (AK (v:=(Value.bool (decide ((ds.getD (k-1) 0)=0)))) (AR O O) O (AC.nil (OkQ.mid (sS O (sS O (sS O (sS O (sS O (sS (by first|rfl|(rw [hg1];rfl)|rw [hg1]) (sS (by first|rfl|(rw [hg1];rfl)|rw [hg1]) (sN)))))))) (List.Sublist.refl _))))))))))
  ·skip
   refine AC.retell (k:=6) (u:=Value.bool false) O (by rw [hg1]) ?_
   have hg1':=hg1
   replace hg1':=of_decide_eq_false hg1'
   exact AC.skip (AD O) O (AV O) (AC.skip (AD O) O (AV O) (AC.skip (AD O) O (AV O) (AC.skip (AD O) O (AV O) (AC.skip (AD O) O (AV O) (AC.skip (AD O) O (AV O) (AC.skip (AD O) O (AV O) (AK (v:=(Value.bool false)) (AO O O) O (AC.nil (OkQ.mid (sS O (sS O (sS O (sS O (sS O (sS (by first|rfl|(rw [hg1];rfl)|rw [hg1]) (sS (by first|rfl|(rw [hg1];rfl)|rw [hg1]) (sN)))))))) (List.Sublist.refl _))))))))))
 refine AC.nil (OkQ.subF (sL [2,0,14] O) (OkQ.then_ ?_))
 refine AE.cond O (λhc0=>?_) (λhc0=>?_)
 ·simp only [Bool.and_eq_true,Bool.or_eq_true,Bool.and_eq_false_iff,Bool.or_eq_false_iff,Bool.not_eq_true',Bool.not_eq_false',decide_eq_true_eq,decide_eq_false_iff_not] at hc0
  refine AE.skip (OkQ.then_ (AE.block (AE.region (AM O (AM O (AK (v:=(vN k)) (AF O underlying93) O (AK (BO (c:=((k-1:Nat):Int)) O O (Br (a:=k) (b:=1) Z Z)) O (AK (v:=(Value.slice p (k-1) c)) (Dx (m:=k-1) O O underlying93 sizeOf3 Z) O (AI O (AC.nil (OkQ.subF (sL [2,0] O) ?_)))))))))))
  exact OkQ.in_normal (OkQ.round1 (k-1) (⟨Z,by rw [Ko Z hc0.2,Nat.sub_add_cancel hc0.1,hv]⟩) Z (sF O) sr)
 ·simp only [Bool.and_eq_true,Bool.or_eq_true,Bool.and_eq_false_iff,Bool.or_eq_false_iff,Bool.not_eq_true',Bool.not_eq_false',decide_eq_true_eq,decide_eq_false_iff_not] at hc0
  have htl:=Tu hd hk hv (hc0.imp (λh=>by omega) id)
  exact AE.exit (OkQ.then_exit (OkQ.round1_exit (OkQ.in_exit (q2 (AM O (AI O (AC.nil (OkQ.subF (sL [2,0] O) (OkQ.then_ (AE.ret (AS O (AZ (v:=(Value.slice p k c)) O) (λw hw=>⟨by rw [<-htl],hw.out⟩))))))))))))
theorem ME (a:NV) (i:Nat) (hi:i<=1099511627776) (w:World) (ha:Holds w (nA a)):Calls prog 151 #[(nV a),(vN i)] w (Ak w (vN ((dg a.x).getD i 0))):=by
 refine Ag (args:=[(nV a),(vN i)]) (L:=[nA a]) func151 O O (AV O) (B8 O ha (Ao)) (AE.subF (sL [0,1] O) (q4 (AI O (AC.nil (q1 (q4 (AM O (AM O (AK (v:=(vN ((dg a.x).length))) (AF O underlying93) O (AK (Ad (c:=(decide (i<((dg a.x).length)))) O O (B7 (a:=i) (b:=(dg a.x).length))) O (AC.nil ?_)))))))))))
 refine OkQ.subF (sL [0,1,4,8] O) (OkQ.then_ ?_)
 refine AE.cond O (λhc0=>?_) (λhc0=>?_)
 ·replace hc0:=of_decide_eq_true hc0
  exact q4 (AM O (AM O (AK (v:=(pP (pB a.p) (pO a.p+i*1))) (AH (j:=i) O O a.ok underlying93 sizeOf3 O Z) O (AK (AL (v:=(vN ((dg a.x).getD i 0))) (i:=0) O O (a.ok.ne Z) BR (DV (ds:=dg a.x) (j:=i) Z)) O (AI O (AC.nil (OkQ.subF (sL [0,1,4] O) (OkQ.then_ (AE.ret (OkQ.then_ret (AS O (AZ (v:=(vN ((dg a.x).getD i 0))) O) (λw hw=>⟨rfl,hw.out⟩))))))))))))
 ·replace hc0:=of_decide_eq_false hc0
  have hg:=DI hc0
  exact AE.skip (q2 (AI O (AC.nil (OkQ.then_ (AE.ret (AS O (AZ (v:=(vI 0)) O) (λw hw=>⟨by rw [hg];rfl,hw.out⟩)))))))
theorem Oi (x:Nat) (hx:x<18446744073709551616) (w:World)  :Calls prog 135 #[(vK .u64 x)] w (F6 w [] x):=by
 have hlen:(dg x).length<=5:=FW Z
 refine An (args:=[(vK .u64 x)]) func135 O O (AV O) (AE.subF (sL [0] O) (q4 (AI O (AC.nil (q2 (AI O (AC.nilRow 3 1 (AC.nil (q1 (AE.block ?_))))))))))
 refine AE.lp5 (tg λ(y:Nat) (p:Option Addr) (c:Nat) (k:Nat) (ds:List Nat)=>dg x=ds++dg y/\k=ds.length/\OwnOk p k c/\y<=x) (tg λ(y:Nat) (p:Option Addr) (c:Nat) (k:Nat) (ds:List Nat)=>[(2,(Value.slice none 0 0)),(0,(vK .u64 y)),(3,(Value.slice p k c))]) (tg λ(y:Nat) (p:Option Addr) (c:Nat) (k:Nat) (ds:List Nat)=>[rowW p 3 1 k c (dgL ds)]) (tg λ(y:Nat) (p:Option Addr) (c:Nat) (k:Nat) (ds:List Nat)=>y) x none 0 0 ([]) (⟨rfl,rfl,OwnOk.none,Nat.le_refl _⟩) (sF O) sr (λy p c k ds hJ=>?_)
 obtain ⟨hd,hk,ho,hy⟩:=hJ
 have hkl:k<=5:=by have:=congrArg List.length hd;rw [List.length_append] at this;omega
 refine AE.seq (q4 (AM O (AK (CC (c:=(decide (0<y))) O O (B7 (a:=0) (b:=y))) O (AC.nil (OkQ.subF (sL [2,0,3,5] O) (OkQ.then_ ?_))))))
 refine AE.cond O (λhc0=>?_) (λhc0=>?_)
 ·replace hc0:=of_decide_eq_true hc0
  refine AE.skip (OkQ.then_ (AE.block (q4 (AM O (AM O (AK (Cb (c:=((y%10000:Nat):Int)) O O Z (NQ (a:=y) (b:=10000))) O (AK (A7 (c:=((y%10000:Nat):Int)) O underlying56 underlying3 (E2 Z)) O (AC.openV (V:=λb1=>(Value.slice (some ⟨b1,0,none⟩) 1 1)) (T:=3) (cs:=[(vN (y%10000))]) (AT O) (Ap (cs:=[(vN (y%10000))]) (pv:=[(0,(vN (y%10000)))]) underlying93 sizeOf3 zeroValue3 (by decide) (by decide) O (by kernel_rfl)) O (AV O) λb1=>AC.append1 (j:=0) (cs2:=dgL (ds++[y%10000])) VP O ho (by simp [CK];omega) O O O O (by decide) (Fl Z) Z (by rw [EZ];rfl) O λp_1 c_1 ho_1 hne_1=>AI O (AC.nil ?_)))))))))
  exact OkQ.subF (sL [2,0,3] O) (OkQ.then_ (AE.region (AM O (AK (Ey (c:=((y/10000:Nat):Int)) O O Z (Ho (a:=y) (b:=10000) Z)) O (AI O (AC.nil (OkQ.subF (sL [2,0,3] O) (OkQ.in_normal (OkQ.round5 (y/10000) p_1 c_1 (k+1) (ds++[y%10000]) (⟨by rw [hd,Er Z,List.append_assoc];rfl,by simp [hk],ho_1,Z⟩) Z (sF O) (sl sr))))))))))
 ·replace hc0:=of_decide_eq_false hc0
  refine AE.exit (OkQ.then_exit (OkQ.round5_exit (OkQ.in_exit (q2 (AM O (AI O (AC.nil (OkQ.subF (sL [2,0,3] O) (OkQ.then_ (AE.ret ?_))))))))))
  obtain rfl:y=0:=by omega
  rw [Ef,List.append_nil] at hd
  exact AS O (AZ (v:=(Value.slice p k c)) O) (λw hw=>U6 hw (i:=0) O ho hk (by rw [hd,List.take_length]) (by rw [hd,<-hk]))
end
section
set_option maxRecDepth 100000
theorem Wi (a b:NV) (hla:(dg a.x).length<=549755813888) (hlb:(dg b.x).length<=549755813888) (w:World) (ha:Holds w (nA a)) (hb:Holds w (nA b)):Calls prog 134 #[(nV a),(nV b)] w (F6 w [] (a.x+b.x)):=by
 refine Ag (args:=[(nV a),(nV b)]) (L:=[nA a,nA b]) func134 O O (AV O) (B8 O ha (B8 O hb (Ao))) (AE.subF (sL [0,1] O) (q4 (AI O (AC.nil (q2 (AI O (AC.nilRow 3 1 (AC.nil (q2 (AI O (AC.nil ?_)))))))))))
 refine q1 (q4 (AI O (AC.nil (OkQ.then_ (AE.block ?_)))))
 refine AE.lp5 (tg λ(i:Nat) (cy:Nat) (p:Option Addr) (c:Nat) (ds:List Nat)=>Il ds/\i=ds.length/\OwnOk p i c/\cy<=1/\val10 ds+10000^i*cy=val10 ((dg a.x).take i)+val10 ((dg b.x).take i)/\(i<=max (dg a.x).length (dg b.x).length\/i<=max (dg a.x).length (dg b.x).length+1/\cy=0)) (tg λ(i:Nat) (cy:Nat) (p:Option Addr) (c:Nat) (ds:List Nat)=>[(0,(nV a)),(1,(nV b)),(4,(Value.slice none 0 0)),(6,(vN cy)),(7,(vN i)),(5,(Value.slice p i c))]) (tg λ(i:Nat) (cy:Nat) (p:Option Addr) (c:Nat) (ds:List Nat)=>[rowW p 3 1 i c (dgL ds),nA a,nA b]) (tg λ(i:Nat) (cy:Nat) (p:Option Addr) (c:Nat) (ds:List Nat)=>max (dg a.x).length (dg b.x).length+2-i) 0 0 none 0 ([]) (⟨P_,rfl,OwnOk.none,Z,rfl,.inl Z⟩) (sF O) sr (λi cy p c ds hJ=>?_)
 obtain ⟨hdd,hk,ho,hcy,hv,hm⟩:=hJ
 have ga:=GI a.x i
 have gb:=GI b.x i
 refine AE.seq (q4 (AM O (AM O (AK (v:=(vN ((dg a.x).length))) (AF O underlying93) O (AK (Ad (c:=(decide (i<((dg a.x).length)))) O O (B7 (a:=i) (b:=(dg a.x).length))) O (AM O ?_))))))
 refine AC.mid (FM:=[(0,(nV a)),(1,(nV b)),(4,(Value.slice none 0 0)),(6,(vN cy)),(7,(vN i)),(5,(Value.slice p i c)),(9,(vN i)),(10,(nV a)),(11,(vN ((dg a.x).length))),(12,(Value.bool (decide (i<((dg a.x).length))))),(13,(Value.bool (decide (i<((dg a.x).length))))),(18,(Value.bool ((decide (i<((dg a.x).length)))||(decide (i<((dg b.x).length))))))]) (LM:=[rowW p 3 1 i c (dgL ds),nA a,nA b]) 5 ?_ ?_
 ·rcases Bool.eq_false_or_eq_true (decide (i<((dg a.x).length))) with hg1|hg1
  ·skip
   refine AC.retell (k:=13) (u:=Value.bool true) O (by rw [hg1]) ?_
   have hg1':=hg1
   replace hg1':=of_decide_eq_true hg1'
   exact AC.skip (AD O) O (AV O) (AC.skip (AD O) O (AV O) (AC.skip (AD O) O (AV O) (AC.skip (AD O) O (AV O) (AK (v:=(Value.bool true)) (AR O O) O (AC.nil (OkQ.mid (sS O (sS O (sS O (sS O (sS O (sS O (sS O (sS O (sS O (sS O (sS (by first|rfl|(rw [hg1];rfl)|rw [hg1]) (sS (by first|rfl|(rw [hg1];rfl)|rw [hg1]) (sN))))))))))))) (List.Sublist.refl _)))))))
  ·skip
   refine AC.retell (k:=13) (u:=Value.bool false) O (by rw [hg1]) ?_
   have hg1':=hg1
   replace hg1':=of_decide_eq_false hg1'
   exact AC.step (v:=(vN i)) (AA O) (AW O) O (AV O) (AC.step (v:=(nV b)) (AA O) (AW O) O (AV O) (AC.step (v:=(vN ((dg b.x).length))) (AA O) (AF O underlying93) O (AV O) (AC.step (v:=(Value.bool (decide (i<((dg b.x).length))))) (AA O) (Ad (c:=(decide (i<((dg b.x).length)))) O O (B7 (a:=i) (b:=(dg b.x).length))) O (AV O) (AK (v:=(Value.bool (decide (i<((dg b.x).length))))) (AO O O) O (AC.nil (OkQ.mid (sS O (sS O (sS O (sS O (sS O (sS O (sS O (sS O (sS O (sS O (sS (by first|rfl|(rw [hg1];rfl)|rw [hg1]) (sS (by first|rfl|(rw [hg1];rfl)|rw [hg1]) (sN))))))))))))) (List.Sublist.refl _)))))))
 refine AM O ?_
 refine AC.mid (FM:=[(0,(nV a)),(1,(nV b)),(4,(Value.slice none 0 0)),(6,(vN cy)),(7,(vN i)),(5,(Value.slice p i c)),(9,(vN i)),(10,(nV a)),(11,(vN ((dg a.x).length))),(12,(Value.bool (decide (i<((dg a.x).length))))),(13,(Value.bool (decide (i<((dg a.x).length))))),(18,(Value.bool ((decide (i<((dg a.x).length)))||(decide (i<((dg b.x).length)))))),(19,(Value.bool ((decide (i<((dg a.x).length)))||(decide (i<((dg b.x).length)))))),(22,(Value.bool (((decide (i<((dg a.x).length)))||(decide (i<((dg b.x).length))))||(decide (0<cy)))))]) (LM:=[rowW p 3 1 i c (dgL ds),nA a,nA b]) 3 ?_ ?_
 ·rcases Bool.eq_false_or_eq_true ((decide (i<((dg a.x).length)))||(decide (i<((dg b.x).length)))) with hg2|hg2
  ·skip
   refine AC.retell (k:=19) (u:=Value.bool true) O (by rw [hg2]) ?_
   have hg2':=hg2
   simp only [Bool.and_eq_true,Bool.or_eq_true,Bool.and_eq_false_iff,Bool.or_eq_false_iff,Bool.not_eq_true',Bool.not_eq_false',decide_eq_true_eq,decide_eq_false_iff_not] at hg2'
   exact AC.skip (AD O) O (AV O) (AC.skip (AD O) O (AV O) (AK (v:=(Value.bool true)) (AR O O) O (AC.nil (OkQ.mid (sS O (sS O (sS O (sS O (sS O (sS O (sS O (sS O (sS O (sS O (sS O (sS O (sS (by first|rfl|(rw [hg2];rfl)|rw [hg2]) (sS (by first|rfl|(rw [hg2];rfl)|rw [hg2]) (sN))))))))))))))) (List.Sublist.refl _)))))
  ·skip
   refine AC.retell (k:=19) (u:=Value.bool false) O (by rw [hg2]) ?_
   have hg2':=hg2
   simp only [Bool.and_eq_true,Bool.or_eq_true,Bool.and_eq_false_iff,Bool.or_eq_false_iff,Bool.not_eq_true',Bool.not_eq_false',decide_eq_true_eq,decide_eq_false_iff_not] at hg2'
   exact AC.step (v:=(vN cy)) (AA O) (AW O) O (AV O) (AC.step (v:=(Value.bool (decide (0<cy)))) (AA O) (CC (c:=(decide (0<cy))) O O (B7 (a:=0) (b:=cy))) O (AV O) (AK (v:=(Value.bool (decide (0<cy)))) (AO O O) O (AC.nil (OkQ.mid (sS O (sS O (sS O (sS O (sS O (sS O (sS O (sS O (sS O (sS O (sS O (sS O (sS (by first|rfl|(rw [hg2];rfl)|rw [hg2]) (sS (by first|rfl|(rw [hg2];rfl)|rw [hg2]) (sN))))))))))))))) (List.Sublist.refl _)))))
 refine AC.nil (OkQ.subF (sL [0,1,4,6,7,5,22] O) (OkQ.then_ ?_))
 refine AE.cond O (λhc0=>?_) (λhc0=>?_)
 ·simp only [Bool.and_eq_true,Bool.or_eq_true,Bool.and_eq_false_iff,Bool.or_eq_false_iff,Bool.not_eq_true',Bool.not_eq_false',decide_eq_true_eq,decide_eq_false_iff_not] at hc0
  refine AE.skip (q1 (AE.block (q4 (AM O (AM O ?_)))))
  have hz1:=GI a.x i
  refine Cc call151 (λw hw=>ME a i Z w (hw.holds (i:=1) O)) O (AM O (AM O ?_))
  have hz2:=GI b.x i
  refine Cc call151 (λw hw=>ME b i Z w (hw.holds (i:=2) O)) O (AK (AY (c:=((((dg a.x).getD i 0)+((dg b.x).getD i 0):Nat):Int)) O O (AU (a:=(dg a.x).getD i 0) (b:=(dg b.x).getD i 0) Z)) O (AM O (AK (AY (c:=(((((dg a.x).getD i 0)+((dg b.x).getD i 0))+cy:Nat):Int)) O O (AU (a:=((dg a.x).getD i 0)+((dg b.x).getD i 0)) (b:=cy) Z)) O (AI O (q3 (sL [0,1,4,6,7,5,8] O) (AM O (AM O (AK (Cb (c:=((((((dg a.x).getD i 0)+((dg b.x).getD i 0))+cy)%10000:Nat):Int)) O O Z (NQ (a:=(((dg a.x).getD i 0)+((dg b.x).getD i 0))+cy) (b:=10000))) O (AC.openV (V:=λb1=>(Value.slice (some ⟨b1,0,none⟩) 1 1)) (T:=3) (cs:=[(vN (((((dg a.x).getD i 0)+((dg b.x).getD i 0))+cy)%10000))]) (AT O) (Ap (cs:=[(vN (((((dg a.x).getD i 0)+((dg b.x).getD i 0))+cy)%10000))]) (pv:=[(0,(vN (((((dg a.x).getD i 0)+((dg b.x).getD i 0))+cy)%10000)))]) underlying93 sizeOf3 zeroValue3 (by decide) (by decide) O (by kernel_rfl)) O (AV O) λb1=>AC.append1 (j:=0) (cs2:=dgL (ds++[((((dg a.x).getD i 0)+((dg b.x).getD i 0))+cy)%10000])) VP O ho (by simp [CK];omega) O O O O (by decide) (Fl Z) Z (by rw [EZ];rfl) O λp_1 c_1 ho_1 hne_1=>AI O ?_)))))))))
  refine AC.nil (OkQ.subF (sL [0,1,4,6,7,5,8] O) (OkQ.then_ (AE.region (AM O (AK (Ey (c:=((((((dg a.x).getD i 0)+((dg b.x).getD i 0))+cy)/10000:Nat):Int)) O O Z (FA (a:=(((dg a.x).getD i 0)+((dg b.x).getD i 0))+cy) (b:=10000) Z)) O (AI O (AC.nil (OkQ.subF (sL [0,1,4,6,7,5,8] O) (OkQ.in_normal (OkQ.then_ (AE.region ?_)))))))))))
  refine AM O (AK (AY (c:=((i+1:Nat):Int)) O O (AU (a:=i) (b:=1) Z)) O (AI O (AC.nil (OkQ.subF (sL [0,1,4,6,7,5,8] O) ?_))))
  have hnx:i+1<=max (dg a.x).length (dg b.x).length\/i+1<=max (dg a.x).length (dg b.x).length+1/\((dg a.x).getD i 0+(dg b.x).getD i 0+cy)/10000=0:=by
            by_cases hi:i<max (dg a.x).length (dg b.x).length
            ·exact .inl Z
            ·refine .inr ⟨Z,?_⟩
             rw [DI (show ¬i<(dg a.x).length by omega),DI (show ¬i<(dg b.x).length by omega)]
             omega
  exact OkQ.round5 (i+1) (((dg a.x).getD i 0+(dg b.x).getD i 0+cy)/10000) p_1 c_1 (ds++[((dg a.x).getD i 0+(dg b.x).getD i 0+cy)%10000]) (⟨Nh hdd Z,by simp [hk],ho_1,Z,by rw [Bu,Bu];exact VR hk hv O,hnx⟩) Z (sF O) (sl sr)
 ·simp only [Bool.and_eq_true,Bool.or_eq_true,Bool.and_eq_false_iff,Bool.or_eq_false_iff,Bool.not_eq_true',Bool.not_eq_false',decide_eq_true_eq,decide_eq_false_iff_not] at hc0
  have hfin:val10 ds=a.x+b.x:=by rw [Ch Z,Ch Z,CZ,CZ,show cy=0 by omega] at hv;simpa using hv
  exact AE.exit (OkQ.then_exit (OkQ.round5_exit (OkQ.in_exit (q2 (AM O (Cc (args:=[(Value.slice p i c)]) (v:=(Value.slice p ((dg (val10 ds)).length) c)) call152 (λw hw=>(by have h9:=Fu p c ds hdd (by rw [<-hk];exact ho.row) Z w (J3 (hw.holds (i:=0) O) ho hk);rw [<-hk] at h9;exact h9)) O (AI O (AC.nil (OkQ.subF (sL [0,1,4,6,7,5] O) (OkQ.then_ (AE.ret (AS O (AZ (v:=(Value.slice p ((dg (val10 ds)).length) c)) O) (λw hw=>U6 hw (i:=0) O ho hk (by rw [<-hfin];exact E8 hdd) (by rw [hfin]))))))))))))))
theorem Qn (a b:NV) (hab:b.x<=a.x) (hla:(dg a.x).length<=549755813888) (w:World) (ha:Holds w (nA a)) (hb:Holds w (nA b)):Calls prog 132 #[(nV a),(nV b)] w (F6 w [] (a.x-b.x)):=by
 have hlb:=HL hab
 refine Ag (args:=[(nV a),(nV b)]) (L:=[nA a,nA b]) func132 O O (AV O) (B8 O ha (B8 O hb (Ao))) (AE.subF (sL [0,1] O) (q4 (AI O (AC.nil (q2 (AI O (AC.nilRow 3 1 (AC.nil (q2 (AI O (AC.nil ?_)))))))))))
 refine q1 (q4 (AI O (AC.nil (OkQ.then_ (AE.block ?_)))))
 refine AE.lp5 (tg λ(i:Nat) (ld:Nat) (p:Option Addr) (c:Nat) (ds:List Nat)=>Il ds/\i=ds.length/\OwnOk p i c/\ld<=1/\val10 ds+val10 ((dg b.x).take i)=val10 ((dg a.x).take i)+10000^i*ld/\i<=(dg a.x).length) (tg λ(i:Nat) (ld:Nat) (p:Option Addr) (c:Nat) (ds:List Nat)=>[(0,(nV a)),(1,(nV b)),(4,(Value.slice none 0 0)),(6,(vN ld)),(7,(vN i)),(5,(Value.slice p i c))]) (tg λ(i:Nat) (ld:Nat) (p:Option Addr) (c:Nat) (ds:List Nat)=>[rowW p 3 1 i c (dgL ds),nA a,nA b]) (tg λ(i:Nat) (ld:Nat) (p:Option Addr) (c:Nat) (ds:List Nat)=>(dg a.x).length-i) 0 0 none 0 ([]) (⟨P_,rfl,OwnOk.none,Z,rfl,Z⟩) (sF O) sr (λi ld p c ds hJ=>?_)
 obtain ⟨hdd,hk,ho,hcy,hv,hm⟩:=hJ
 have ga:=GI a.x i
 have gb:=GI b.x i
 refine AE.seq (q4 (AM O (AM O (AK (v:=(vN ((dg a.x).length))) (AF O underlying93) O (AK (Ad (c:=(decide (i<((dg a.x).length)))) O O (B7 (a:=i) (b:=(dg a.x).length))) O (AC.nil (OkQ.subF (sL [0,1,4,6,7,5,12] O) (OkQ.then_ ?_))))))))
 refine AE.cond O (λhc0=>?_) (λhc0=>?_)
 ·replace hc0:=of_decide_eq_true hc0
  refine AE.skip (q1 (AE.block (AE.seq (Cu [(0,true),(1,true),(2,true),(3,true),(4,true),(5,true),(8,true),(6,false),(7,true),(9,true),(10,true)] sr (BU O (BU O (Av (v:=(pP (pB a.p) (pO a.p+i*1))) O (AH (j:=i) O O a.ok underlying93 sizeOf3 O Z) (Av O (AL (v:=(vN ((dg a.x).getD i 0))) (i:=1) O O (a.ok.ne Z) BR (DV (ds:=dg a.x) (j:=i) Z)) (BU O (BU O (BU O ?_)))))))))))
  refine OkE.imp O ?_
  have hz1:=GI b.x i
  refine Cc call151 (λw hw=>ME b i Z w (hw.holds (i:=2) O)) O (OkE.back sr (Av O (BO (c:=((((dg a.x).getD i 0:Nat):Int)-(((dg b.x).getD i 0:Nat):Int))) O O (BJ Z Z)) (Av O (BO (c:=((((dg a.x).getD i 0:Nat):Int)-(((dg b.x).getD i 0:Nat):Int)-(ld:Int))) O O (BJ Z Z)) (pS' O (OkE.nil (OkQ.subF (sL [0,1,4,6,7,5,8] O) (q2 (AI O (AC.nil (q1 (q4 ?_)))))))))))
  refine AM O (AK (Ad (c:=(decide (((((dg a.x).getD i 0:Nat):Int)-(((dg b.x).getD i 0:Nat):Int)-(ld:Int))<(0:Int)))) O O O) O (AC.nil (OkQ.subF (sL [0,1,4,6,7,5,8,26] O) (OkQ.then_ ?_))))
  refine AE.jn2 (tg λ(d:Nat) (ld2:Nat)=>d<10000/\ld2<=1/\d+(dg b.x).getD i 0+ld=(dg a.x).getD i 0+10000*ld2) (tg λ(d:Nat) (ld2:Nat)=>[(0,(nV a)),(1,(nV b)),(4,(Value.slice none 0 0)),(7,(vN i)),(5,(Value.slice p i c)),(8,(vN d)),(6,(vN ld2))]) (tg λ(d:Nat) (ld2:Nat)=>[rowW p 3 1 i c (dgL ds),nA a,nA b]) ?_ ?_
  ·skip
   refine AE.cond O (λhc1=>?_) (λhc1=>?_)
   ·replace hc1:=of_decide_eq_true hc1
    exact q4 (AM O (AK (AY (c:=(((dg a.x).getD i 0+10000-(dg b.x).getD i 0-ld:Nat):Int)) O O (by rw [BJ Z Z];omega)) O (AI O (AC.nil (OkQ.subF (sL [0,1,4,6,7,5,8] O) (OkQ.then_ (AE.region (AI O (AC.nil (OkQ.join2 ((dg a.x).getD i 0+10000-(dg b.x).getD i 0-ld) 1 (⟨Z,Z,Z⟩) (sF O) sr))))))))))
   ·replace hc1:=of_decide_eq_false hc1
    exact AE.retell (k:=8) (u:=(vN ((dg a.x).getD i 0-(dg b.x).getD i 0-ld))) O (by show Value.int _ _=Value.int _ _;congr 1;omega) (AE.skip (OkQ.join2 ((dg a.x).getD i 0-(dg b.x).getD i 0-ld) 0 (⟨Z,Z,Z⟩) (sF O) sr))
  ·intro d ld2 hJ
   obtain ⟨hd,hl2,hd2⟩:=hJ
   refine OkQ.then_ (AE.region (AM O (AM O (AC.openV (V:=λb1=>(Value.slice (some ⟨b1,0,none⟩) 1 1)) (T:=3) (cs:=[(vN d)]) (AT O) (Ap (cs:=[(vN d)]) (pv:=[(0,(vN d))]) underlying93 sizeOf3 zeroValue3 (by decide) (by decide) O (by kernel_rfl)) O (AV O) λb1=>AC.append1 (j:=0) (cs2:=dgL (ds++[d])) VP O ho (by simp [CK];omega) O O O O (by decide) (Fl Z) Z (by rw [EZ];rfl) O λp_1 c_1 ho_1 hne_1=>AI O (AC.nil (OkQ.subF (sL [0,1,4,7,5,8,6] O) (OkQ.in_normal (OkQ.then_ (AE.region ?_)))))))))
   exact AM O (AK (AY (c:=((i+1:Nat):Int)) O O (AU (a:=i) (b:=1) Z)) O (AI O (AC.nil (OkQ.subF (sL [0,1,4,7,5,8,6] O) (OkQ.round5 (i+1) ld2 p_1 c_1 (ds++[d]) (⟨Nh hdd Z,by simp [hk],ho_1,Z,by rw [Bu,Bu];exact MH hk hv hd2,Z⟩) Z (sF O) (sl sr))))))
 ·replace hc0:=of_decide_eq_false hc0
  have hfin:val10 ds=a.x-b.x:=by
   rw [Ch Z,Ch Z,CZ,CZ] at hv
   exact Mu hdd hk Z hab hv
  exact AE.exit (OkQ.then_exit (OkQ.round5_exit (OkQ.in_exit (q2 (AM O (Cc (args:=[(Value.slice p i c)]) (v:=(Value.slice p ((dg (val10 ds)).length) c)) call152 (λw hw=>(by have h9:=Fu p c ds hdd (by rw [<-hk];exact ho.row) Z w (J3 (hw.holds (i:=0) O) ho hk);rw [<-hk] at h9;exact h9)) O (AI O (AC.nil (OkQ.subF (sL [0,1,4,6,7,5] O) (OkQ.then_ (AE.ret (AS O (AZ (v:=(Value.slice p ((dg (val10 ds)).length) c)) O) (λw hw=>U6 hw (i:=0) O ho hk (by rw [<-hfin];exact E8 hdd) (by rw [hfin]))))))))))))))
theorem QB (a b:NV) (hla:(dg a.x).length<=549755813888) (hlb:(dg b.x).length<=549755813888) (w:World) (ha:Holds w (nA a)) (hb:Holds w (nA b)):Calls prog 153 #[(nV a),(nV b)] w (Ak w (vI (C6 a.x b.x))):=by
 refine Ag (args:=[(nV a),(nV b)]) (L:=[nA a,nA b]) func153 O O (AV O) (B8 O ha (B8 O hb (Ao))) (AE.subF (sL [0,1] O) (q4 (AI O (AC.nil (q1 (q4 (AM O (AK (v:=(vN ((dg a.x).length))) (AF O underlying93) O (AM O (AK (v:=(vN ((dg b.x).length))) (AF O underlying93) O (AK (Ad (c:=(decide (((dg a.x).length)<((dg b.x).length)))) O O (B7 (a:=(dg a.x).length) (b:=(dg b.x).length))) O ?_)))))))))))
 refine AC.nil (OkQ.subF (sL [0,1,4,10] O) (OkQ.then_ ?_))
 refine AE.cond O (λhc0=>?_) (λhc0=>?_)
 ·replace hc0:=of_decide_eq_true hc0
  have hz:C6 a.x b.x = -1:=if_pos (Kr hc0)
  exact q4 (AI O (AC.nil (OkQ.then_ (AE.ret (OkQ.then_ret (AS O (AZ (v:=(vI (-1:Int))) O) (λw hw=>⟨by rw [hz],hw.out⟩)))))))
 ·replace hc0:=of_decide_eq_false hc0
  refine AE.skip (q1 (q4 (AM O (AK (v:=(vN ((dg a.x).length))) (AF O underlying93) O (AM O (AK (v:=(vN ((dg b.x).length))) (AF O underlying93) O (AK (CC (c:=(decide (((dg b.x).length)<((dg a.x).length)))) O O (B7 (a:=(dg b.x).length) (b:=(dg a.x).length))) O (AC.nil (OkQ.subF (sL [0,1,4,15] O) (OkQ.then_ ?_))))))))))
  refine AE.cond O (λhc1=>?_) (λhc1=>?_)
  ·replace hc1:=of_decide_eq_true hc1
   have hz:C6 a.x b.x=1:=by
      have h9:=Kr hc1
      unfold C6;rw [if_neg Z,if_neg Z]
   exact q4 (AI O (AC.nil (OkQ.then_ (AE.ret (OkQ.then_ret (AS O (AZ (v:=(vI 1)) O) (λw hw=>⟨by rw [hz],hw.out⟩)))))))
  ·replace hc1:=of_decide_eq_false hc1
   refine AE.skip (q1 (q4 (AM O (AK (v:=(vN ((dg a.x).length))) (AF O underlying93) O (AK (BO (c:=((((dg a.x).length:Nat):Int)-1)) O O (BJ Z Z)) O (AI O (AC.nil (OkQ.subF (sL [0,1,4,5] O) (OkQ.then_ (AE.block ?_))))))))))
   refine AE.lp1 (tg λ(j:Nat)=>j<=(dg a.x).length/\(dg a.x).drop j=(dg b.x).drop j) (tg λ(j:Nat)=>[(0,(nV a)),(1,(nV b)),(5,(vI (((j:Nat):Int)-1)))]) (tg λ(j:Nat)=>[nA a,nA b]) (tg λ(j:Nat)=>j) ((dg a.x).length) (⟨Nat.le_refl _,by rw [List.drop_length,List.drop_of_length_le Z]⟩) (sF O) sr (λj hJ=>?_)
   obtain ⟨hm,hd⟩:=hJ
   have hl:(dg a.x).length=(dg b.x).length:=by omega
   refine AE.seq (q4 (AM O (AK (CI (c:=(decide ((0:Int)<=(((j:Nat):Int)-1)))) O O O) O (AC.nil (OkQ.subF (sL [0,1,5,20] O) (OkQ.then_ ?_))))))
   refine AE.cond O (λhc2=>?_) (λhc2=>?_)
   ·replace hc2:=of_decide_eq_true hc2
    have hdj:(dg a.x).drop (j-1+1)=(dg b.x).drop (j-1+1):=by rw [Nat.sub_add_cancel Z];exact hd
    refine AE.retell (k:=5) (u:=(vN (j-1))) O (by show Value.int _ _=Value.int _ _;congr 1;omega) (AE.skip (q1 (AE.block (AE.seq (AE.seq (Cu [(0,true),(1,true),(2,true),(3,true),(4,true),(5,true),(6,true),(7,true),(8,true)] sr (BU O (BU O (Av (v:=(pP (pB a.p) (pO a.p+(j-1)*1))) O (AH (j:=j-1) O O a.ok underlying93 sizeOf3 O Z) (Av O (AL (v:=(vN ((dg a.x).getD (j-1) 0))) (i:=0) O O (a.ok.ne Z) BR (DV (ds:=dg a.x) (j:=j-1) Z)) (BU O ?_)))))))))))
    refine BU O (Av (v:=(pP (pB b.p) (pO b.p+(j-1)*1))) O (AH (j:=j-1) O O b.ok underlying93 sizeOf3 O Z) (Av O (AL (v:=(vN ((dg b.x).getD (j-1) 0))) (i:=1) O O (b.ok.ne Z) BR (DV (ds:=dg b.x) (j:=j-1) Z)) (Av O (Ad (c:=(decide (((dg a.x).getD (j-1) 0)<((dg b.x).getD (j-1) 0)))) O O (B7 (a:=(dg a.x).getD (j-1) 0) (b:=(dg b.x).getD (j-1) 0))) (OkE.nil (OkQ.subF (sL [0,1,5,31] O) (OkQ.then_ ?_))))))
    refine AE.cond O (λhc3=>?_) (λhc3=>?_)
    ·replace hc3:=of_decide_eq_true hc3
     have hz:C6 a.x b.x = -1:=if_pos (UZ hl Z hdj hc3)
     exact q4 (AI O (AC.nil (OkQ.then_ (AE.ret (OkQ.then_ret (OkQ.in_ret (OkQ.then_ret (OkQ.round1_ret (OkQ.in_ret (OkQ.then_ret (AS O (AZ (v:=(vI (-1:Int))) O) (λw hw=>⟨by rw [hz],hw.out⟩))))))))))))
    ·replace hc3:=of_decide_eq_false hc3
     refine AE.skip (q1 (Cu [(0,true),(1,true),(2,true),(3,true),(4,true),(5,true),(6,true),(7,true),(8,true)] sr (BU O (BU O (Av (v:=(pP (pB a.p) (pO a.p+(j-1)*1))) O (AH (j:=j-1) O O a.ok underlying93 sizeOf3 O Z) (Av O (AL (v:=(vN ((dg a.x).getD (j-1) 0))) (i:=0) O O (a.ok.ne Z) BR (DV (ds:=dg a.x) (j:=j-1) Z)) (BU O (BU O (Av (v:=(pP (pB b.p) (pO b.p+(j-1)*1))) O (AH (j:=j-1) O O b.ok underlying93 sizeOf3 O Z) (Av O (AL (v:=(vN ((dg b.x).getD (j-1) 0))) (i:=1) O O (b.ok.ne Z) BR (DV (ds:=dg b.x) (j:=j-1) Z)) (Av O (CC (c:=(decide (((dg b.x).getD (j-1) 0)<((dg a.x).getD (j-1) 0)))) O O (B7 (a:=(dg b.x).getD (j-1) 0) (b:=(dg a.x).getD (j-1) 0))) ?_)))))))))))
     refine OkE.nil (OkQ.subF (sL [0,1,5,40] O) (OkQ.then_ ?_))
     refine AE.cond O (λhc4=>?_) (λhc4=>?_)
     ·replace hc4:=of_decide_eq_true hc4
      have hz:C6 a.x b.x=1:=by
        have h9:=UZ hl.symm Z hdj.symm hc4
        unfold C6;rw [if_neg Z,if_neg Z]
      exact q4 (AI O (AC.nil (OkQ.then_ (AE.ret (OkQ.in_ret (OkQ.then_ret (OkQ.round1_ret (OkQ.in_ret (OkQ.then_ret (AS O (AZ (v:=(vI 1)) O) (λw hw=>⟨by rw [hz],hw.out⟩)))))))))))
     ·replace hc4:=of_decide_eq_false hc4
      exact AE.skip (OkQ.in_normal (OkQ.then_ (AE.region (AM O (AK (BO (c:=(((j-1:Nat):Int)-1)) O O (BJ Z Z)) O (AI O (AC.nil (OkQ.subF (sL [0,1,5] O) (OkQ.round1 (j-1) (⟨Z,Mo hl Z hdj Z⟩) Z (sF O) sr)))))))))
   ·replace hc2:=of_decide_eq_false hc2
    obtain rfl:j=0:=by omega
    have hz:C6 a.x b.x=0:=Md.2 (Xj hd)
    exact AE.exit (OkQ.then_exit (OkQ.round1_exit (OkQ.in_exit (q2 (AI O (AC.nil (OkQ.then_ (AE.ret (AS O (AZ (v:=(vI 0)) O) (λw hw=>⟨by rw [hz],hw.out⟩))))))))))
end
section
set_option maxRecDepth 100000
theorem Z5:HH prog 93 3 (vN 0) 8:=⟨underlying93,_,_,rfl,rfl,rfl,rfl,rfl⟩
theorem M5 (a:NV) (k:Nat) (hk:k<=1099511627776) (hla:(dg a.x).length<=1099511627776) (hv:a.x/10000^k<9223372036854775808) (w:World) (ha:Holds w (nA a)):Calls prog 154 #[(nV a),(vN k)] w (Ak w (vN (a.x/10000^k))):=by
 refine Ag (args:=[(nV a),(vN k)]) (L:=[nA a]) func154 O O (AV O) (B8 O ha (Ao)) (AE.subF (sL [0,1] O) (q4 (AI O (AC.nil (q2 (AI O (AC.nil (q1 (q4 (AM O (AK (v:=(vN ((dg a.x).length))) (AF O underlying93) O ?_)))))))))))
 refine AK (BO (c:=((((dg a.x).length:Nat):Int)-1)) O O (BJ Z Z)) O (AI O (AC.nil (OkQ.subF (sL [0,1,4,5,6] O) (OkQ.then_ (AE.block ?_)))))
 refine AE.lp2 (tg λ(n:Nat) (j:Nat)=>j<=(dg a.x).length/\(k<=j\/j=(dg a.x).length)/\n=a.x/10000^j) (tg λ(n:Nat) (j:Nat)=>[(0,(nV a)),(1,(vN k)),(4,(vI 0)),(5,(vN n)),(6,(vI (((j:Nat):Int)-1)))]) (tg λ(n:Nat) (j:Nat)=>[nA a]) (tg λ(n:Nat) (j:Nat)=>j) 0 ((dg a.x).length) (⟨Nat.le_refl _,.inr O,(Ti a.x).symm⟩) (sF O) sr (λn j hJ=>?_)
 obtain ⟨hm,hkj,hn⟩:=hJ
 refine AE.seq (q4 (AM O (AM O (AK (CI (c:=(decide (((k:Nat):Int)<=(((j:Nat):Int)-1)))) O O O) O (AC.nil (OkQ.subF (sL [0,1,4,5,6,12] O) (OkQ.then_ ?_)))))))
 refine AE.cond O (λhc0=>?_) (λhc0=>?_)
 ·replace hc0:=of_decide_eq_true hc0
  have hj1:1<=j:=by omega
  have hst:=QH a.x (j-1)
  rw [Nat.sub_add_cancel hj1,<-hn] at hst
  have hle:=JO a.x (show k<=j-1 by omega)
  refine AE.retell (k:=6) (u:=(vN (j-1))) O (by show Value.int _ _=Value.int _ _;congr 1;omega) (AE.skip (q1 (AE.block (AE.region (AM O (AK (DU (c:=((10000*n:Nat):Int)) O O (FD (a:=10000) (b:=n) Z)) O (AM O (AM O (AK (v:=(pP (pB a.p) (pO a.p+(j-1)*1))) (AH (j:=j-1) O O a.ok underlying93 sizeOf3 O Z) O (AK (AL (v:=(vN ((dg a.x).getD (j-1) 0))) (i:=0) O O (a.ok.ne Z) BR (DV (ds:=dg a.x) (j:=j-1) Z)) O (AK (AY (c:=(((10000*n)+((dg a.x).getD (j-1) 0):Nat):Int)) O O (AU (a:=10000*n) (b:=(dg a.x).getD (j-1) 0) Z)) O ?_)))))))))))
  exact AI O (AC.nil (OkQ.subF (sL [0,1,4,5,6] O) (OkQ.in_normal (OkQ.then_ (AE.region (AM O (AK (BO (c:=(((j-1:Nat):Int)-1)) O O (BJ Z Z)) O (AI O (AC.nil (OkQ.subF (sL [0,1,4,5,6] O) (OkQ.round2 ((10000*n)+((dg a.x).getD (j-1) 0)) (j-1) (⟨Z,Z,Z⟩) Z (sF O) sr)))))))))))
 ·replace hc0:=of_decide_eq_false hc0
  have hfin:n=a.x/10000^k:=Mz hn hkj Z
  exact AE.exit (OkQ.then_exit (OkQ.round2_exit (OkQ.in_exit (q2 (AM O (AI O (AC.nil (OkQ.subF (sL [0,1,4,5,6] O) (OkQ.then_ (AE.ret (AS O (AZ (v:=(vN n)) O) (λw hw=>⟨by rw [hfin],hw.out⟩))))))))))))
theorem L0 (a b:NV) (hla:(dg a.x).length<=549755813888) (hlb:(dg b.x).length<=549755813888) (w:World) (ha:Holds w (nA a)) (hb:Holds w (nA b)):Calls prog 129 #[(nV a),(nV b)] w (F6 w [] (a.x*b.x)):=by
 refine Ag (args:=[(nV a),(nV b)]) (L:=[nA a,nA b]) func129 O O (AV O) (B8 O ha (B8 O hb (Ao))) (AE.subF (sL [0,1] O) (q4 (AI O (AC.nil (q2 (AM O (AK (v:=(vN ((dg a.x).length))) (AF O underlying93) O (AM O (AK (v:=(vN ((dg b.x).length))) (AF O underlying93) O (AK (AY (c:=((((dg a.x).length)+((dg b.x).length):Nat):Int)) O O (AU (a:=(dg a.x).length) (b:=(dg b.x).length) Z)) O (AC.makeDig (m:=((dg a.x).length)+((dg b.x).length)) Z5 O O Z O O λb1 ho_b1=>?_)))))))))))
 refine AI O (q6 (sL [0,1,4,5] O) (q4 (AI O (AC.nil (OkQ.then_ (AE.block ?_))))))
 refine AE.lp2 (tg λ(i:Nat) (ds:List Nat)=>Il ds/\(dg a.x).length+(dg b.x).length=ds.length/\i<=(dg a.x).length/\val10 ds=val10 ((dg a.x).take i)*b.x) (tg λ(i:Nat) (ds:List Nat)=>[(0,(nV a)),(1,(nV b)),(4,(Value.slice none 0 0)),(5,(Value.slice (some ⟨b1,0,none⟩) (((dg a.x).length)+((dg b.x).length)) (((dg a.x).length)+((dg b.x).length)))),(6,(vN i))]) (tg λ(i:Nat) (ds:List Nat)=>[rowW (some ⟨b1,0,none⟩) 3 1 ((dg a.x).length+(dg b.x).length) ((dg a.x).length+(dg b.x).length) (dgL ds),nA a,nA b]) (tg λ(i:Nat) (ds:List Nat)=>(dg a.x).length-i) 0 (List.replicate ((dg a.x).length+(dg b.x).length) 0) (⟨Ld _,by simp,Nat.zero_le _,by rw [IW];simp [val10]⟩) (sF O) sr (λi ds hJ=>?_)
 obtain ⟨hdd,hk,hm,hv⟩:=hJ
 have ga:=GI a.x i
 refine AE.seq (q4 (AM O (AM O (AK (v:=(vN ((dg a.x).length))) (AF O underlying93) O (AK (Ad (c:=(decide (i<((dg a.x).length)))) O O (B7 (a:=i) (b:=(dg a.x).length))) O (AC.nil (OkQ.subF (sL [0,1,4,5,6,19] O) (OkQ.then_ ?_))))))))
 refine AE.cond O (λhc0=>?_) (λhc0=>?_)
 ·replace hc0:=of_decide_eq_true hc0
  refine AE.skip (q1 (AE.block (q4 (AI O (AC.nil (q2 (AI O (AC.nil (OkQ.then_ (AE.block ?_))))))))))
  refine AE.lp3 (tg λ(cy:Nat) (k:Nat) (es:List Nat)=>Il es/\(dg a.x).length+(dg b.x).length=es.length/\cy<10000/\(k<=(dg b.x).length\/k=(dg b.x).length+1/\cy=0)/\val10 es+10000^(i+k)*cy=val10 ds+10000^i*(dg a.x).getD i 0*val10 ((dg b.x).take k)) (tg λ(cy:Nat) (k:Nat) (es:List Nat)=>[(0,(nV a)),(1,(nV b)),(4,(Value.slice none 0 0)),(5,(Value.slice (some ⟨b1,0,none⟩) (((dg a.x).length)+((dg b.x).length)) (((dg a.x).length)+((dg b.x).length)))),(6,(vN i)),(7,(vN cy)),(8,(vN k))]) (tg λ(cy:Nat) (k:Nat) (es:List Nat)=>[rowW (some ⟨b1,0,none⟩) 3 1 ((dg a.x).length+(dg b.x).length) ((dg a.x).length+(dg b.x).length) (dgL es),nA a,nA b]) (tg λ(cy:Nat) (k:Nat) (es:List Nat)=>(dg b.x).length+2-k) 0 0 ds (⟨hdd,hk,Z,.inl (Nat.zero_le _),by simp [val10]⟩) (sF O) sr (λcy k es hJ=>?_)
  obtain ⟨hee,hke,hcy,hme,hve⟩:=hJ
  have gb:=GI b.x k
  have ge:=XJ hee (i+k)
  have hbd:=Rg ge ga gb hcy
  have hab:(dg a.x).getD i 0*(dg b.x).getD k 0<=9999*9999:=Nat.mul_le_mul Z Z
  refine AE.seq (q4 (AM O (AM O (AK (v:=(vN ((dg b.x).length))) (AF O underlying93) O (AK (Ad (c:=(decide (k<((dg b.x).length)))) O O (B7 (a:=k) (b:=(dg b.x).length))) O (AM O ?_))))))
  refine AC.mid (FM:=[(0,(nV a)),(1,(nV b)),(4,(Value.slice none 0 0)),(5,(Value.slice (some ⟨b1,0,none⟩) (((dg a.x).length)+((dg b.x).length)) (((dg a.x).length)+((dg b.x).length)))),(6,(vN i)),(7,(vN cy)),(8,(vN k)),(22,(vN k)),(23,(nV b)),(24,(vN ((dg b.x).length))),(25,(Value.bool (decide (k<((dg b.x).length))))),(26,(Value.bool (decide (k<((dg b.x).length))))),(29,(Value.bool ((decide (k<((dg b.x).length)))||(decide (0<cy)))))]) (LM:=[rowW (some ⟨b1,0,none⟩) 3 1 ((dg a.x).length+(dg b.x).length) ((dg a.x).length+(dg b.x).length) (dgL es),nA a,nA b]) 3 ?_ ?_
  ·rcases Bool.eq_false_or_eq_true (decide (k<((dg b.x).length))) with hg1|hg1
   ·skip
    refine AC.retell (k:=26) (u:=Value.bool true) O (by rw [hg1]) ?_
    have hg1':=hg1
    replace hg1':=of_decide_eq_true hg1'
    exact AC.skip (AD O) O (AV O) (AC.skip (AD O) O (AV O) (AK (v:=(Value.bool true)) (AR O O) O (AC.nil (OkQ.mid (sS O (sS O (sS O (sS O (sS O (sS O (sS O (sS O (sS O (sS O (sS O (sS (by first|rfl|(rw [hg1];rfl)|rw [hg1]) (sS (by first|rfl|(rw [hg1];rfl)|rw [hg1]) (sN)))))))))))))) (List.Sublist.refl _)))))
   ·skip
    refine AC.retell (k:=26) (u:=Value.bool false) O (by rw [hg1]) ?_
    have hg1':=hg1
    replace hg1':=of_decide_eq_false hg1'
    exact AC.step (v:=(vN cy)) (AA O) (AW O) O (AV O) (AC.step (v:=(Value.bool (decide (0<cy)))) (AA O) (CC (c:=(decide (0<cy))) O O (B7 (a:=0) (b:=cy))) O (AV O) (AK (v:=(Value.bool (decide (0<cy)))) (AO O O) O (AC.nil (OkQ.mid (sS O (sS O (sS O (sS O (sS O (sS O (sS O (sS O (sS O (sS O (sS O (sS (by first|rfl|(rw [hg1];rfl)|rw [hg1]) (sS (by first|rfl|(rw [hg1];rfl)|rw [hg1]) (sN)))))))))))))) (List.Sublist.refl _)))))
  refine AC.nil (OkQ.subF (sL [0,1,4,5,6,7,8,29] O) (OkQ.then_ ?_))
  refine AE.cond O (λhc1=>?_) (λhc1=>?_)
  ·simp only [Bool.and_eq_true,Bool.or_eq_true,Bool.and_eq_false_iff,Bool.or_eq_false_iff,Bool.not_eq_true',Bool.not_eq_false',decide_eq_true_eq,decide_eq_false_iff_not] at hc1
   refine AE.skip (q1 (AE.block (AE.seq (Cu [(0,true),(1,true),(2,true),(3,true),(4,true),(5,true),(6,true),(7,true),(8,true),(9,true),(10,true),(11,true),(15,true),(12,false),(13,true),(14,true),(16,true),(17,true)] sr (BU O (BU O (BU O (Av O (AY (c:=((i+k:Nat):Int)) O O (AU (a:=i) (b:=k) Z)) (Av (v:=(pP (pB (some ⟨b1,0,none⟩)) (pO (some ⟨b1,0,none⟩)+(i+k)*1))) O (AH (j:=i+k) O O ho_b1.row underlying93 sizeOf3 O Z) (Av O (Ay (v:=(vN (es.getD (i+k) 0))) (i:=0) O O ho_b1 (by simp [CK];omega) (ho_b1.row.ne Z) BR (DV (ds:=es) (j:=i+k) Z)) (BU O ?_)))))))))))
   refine BU O (Av (v:=(pP (pB a.p) (pO a.p+i*1))) O (AH (j:=i) O O a.ok underlying93 sizeOf3 O Z) (Av O (AL (v:=(vN ((dg a.x).getD i 0))) (i:=1) O O (a.ok.ne Z) BR (DV (ds:=dg a.x) (j:=i) Z)) (BU O (BU O (BU O (OkE.imp O ?_))))))
   have hz1:=GI b.x k
   refine Cc call151 (λw hw=>ME b k Z w (hw.holds (i:=2) O)) O (OkE.back sr (Av O (DU (c:=((((dg a.x).getD i 0)*((dg b.x).getD k 0):Nat):Int)) O O (FD (a:=(dg a.x).getD i 0) (b:=(dg b.x).getD k 0) Z)) (Av O (AY (c:=(((es.getD (i+k) 0)+(((dg a.x).getD i 0)*((dg b.x).getD k 0)):Nat):Int)) O O (AU (a:=es.getD (i+k) 0) (b:=((dg a.x).getD i 0)*((dg b.x).getD k 0)) Z)) (Av O (AY (c:=((((es.getD (i+k) 0)+(((dg a.x).getD i 0)*((dg b.x).getD k 0)))+cy:Nat):Int)) O O (AU (a:=(es.getD (i+k) 0)+(((dg a.x).getD i 0)*((dg b.x).getD k 0))) (b:=cy) Z)) (pS' O (OkE.nil (OkQ.subF (sL [0,1,4,5,6,7,8,9] O) (q2 (AM O (AM O (AM O ?_)))))))))))
   refine AK (AY (c:=((i+k:Nat):Int)) O O (AU (a:=i) (b:=k) Z)) O (AM O (AK (Cb (c:=(((((es.getD (i+k) 0)+(((dg a.x).getD i 0)*((dg b.x).getD k 0)))+cy)%10000:Nat):Int)) O O Z (NQ (a:=((es.getD (i+k) 0)+(((dg a.x).getD i 0)*((dg b.x).getD k 0)))+cy) (b:=10000))) O (AK (v:=(pP (pB (some ⟨b1,0,none⟩)) (pO (some ⟨b1,0,none⟩)+(i+k)*1))) (AH (j:=i+k) O O ho_b1.row underlying93 sizeOf3 O Z) O (AC.storeRow0 (j:=i+k) (v:=(vN ((((es.getD (i+k) 0)+(((dg a.x).getD i 0)*((dg b.x).getD k 0)))+cy)%10000))) O O ho_b1 (by simp [CK];omega) Z O sizeOf3 O (Q1 _ _ _) (AC.nil (OkQ.subF (sL [0,1,4,5,6,7,8,9] O) (OkQ.then_ (AE.region (AM O (AK (Ey (c:=(((((es.getD (i+k) 0)+(((dg a.x).getD i 0)*((dg b.x).getD k 0)))+cy)/10000:Nat):Int)) O O Z (FA (a:=((es.getD (i+k) 0)+(((dg a.x).getD i 0)*((dg b.x).getD k 0)))+cy) (b:=10000) Z)) O (AI O ?_)))))))))))
   refine AC.nil (OkQ.subF (sL [0,1,4,5,6,7,8,9] O) (OkQ.in_normal (OkQ.then_ (AE.region (AM O (AK (AY (c:=((k+1:Nat):Int)) O O (AU (a:=k) (b:=1) Z)) O (AI O (AC.nil (OkQ.subF (sL [0,1,4,5,6,7,8,9] O) ?_)))))))))
   have hnx:k+1<=(dg b.x).length\/k+1=(dg b.x).length+1/\(es.getD (i+k) 0+(dg a.x).getD i 0*(dg b.x).getD k 0+cy)/10000=0:=by
            by_cases hkb:k<(dg b.x).length
            ·exact .inl Z
            ·obtain rfl:k=(dg b.x).length:=by omega
             refine .inr ⟨rfl,?_⟩
             rw [Ch Z,CZ] at hve
             have h9:=VD (hV:=V0 a.x b.x i hv) hve
             rw [DI (show ¬(dg b.x).length<(dg b.x).length by omega),Nat.mul_zero,Nat.add_zero]
             omega
   exact OkQ.round3 ((((es.getD (i+k) 0)+(((dg a.x).getD i 0)*((dg b.x).getD k 0)))+cy)/10000) (k+1) (es.set (i+k) ((es.getD (i+k) 0+(dg a.x).getD i 0*(dg b.x).getD k 0+cy)%10000)) (⟨P3 hee Z,by simpa using hke,Z,hnx,by rw [Bu];exact PB Z hve O⟩) Z (sF O) sr
  ·simp only [Bool.and_eq_true,Bool.or_eq_true,Bool.and_eq_false_iff,Bool.or_eq_false_iff,Bool.not_eq_true',Bool.not_eq_false',decide_eq_true_eq,decide_eq_false_iff_not] at hc1
   have hve2:val10 es=val10 ((dg a.x).take (i+1))*b.x:=by
        rw [show cy=0 by omega,Ch Z,CZ,hv,Nat.mul_zero,Nat.add_zero] at hve
        rw [hve,Bu,Nat.add_mul]
   exact AE.exit (OkQ.then_exit (OkQ.round3_exit (OkQ.in_exit (OkQ.in_normal (OkQ.then_ (AE.region (AM O (AK (AY (c:=((i+1:Nat):Int)) O O (AU (a:=i) (b:=1) Z)) O (AI O (AC.nil (OkQ.subF (sL [0,1,4,5,6,7,8] O) (OkQ.round2 (i+1) es (⟨hee,hke,Z,hve2⟩) Z (sF O) sr))))))))))))
 ·replace hc0:=of_decide_eq_false hc0
  have hfin:val10 ds=a.x*b.x:=by rw [hv,Ch Z,CZ]
  exact AE.exit (OkQ.then_exit (OkQ.round2_exit (OkQ.in_exit (q2 (AM O (Cc (args:=[(Value.slice (some ⟨b1,0,none⟩) (((dg a.x).length)+((dg b.x).length)) (((dg a.x).length)+((dg b.x).length)))]) (v:=(Value.slice (some ⟨b1,0,none⟩) ((dg (val10 ds)).length) (((dg a.x).length)+((dg b.x).length)))) call152 (λw hw=>(by have h9:=Fu (some ⟨b1,0,none⟩) (((dg a.x).length)+((dg b.x).length)) ds hdd (by rw [<-hk];exact ho_b1.row) Z w (J3 (hw.holds (i:=0) O) ho_b1 hk);rw [<-hk] at h9;exact h9)) O (AI O (AC.nil (OkQ.subF (sL [0,1,4,5,6] O) (OkQ.then_ (AE.ret (AS O (AZ (v:=(Value.slice (some ⟨b1,0,none⟩) ((dg (val10 ds)).length) (((dg a.x).length)+((dg b.x).length)))) O) (λw hw=>U6 hw (i:=0) O ho_b1 hk (by rw [<-hfin];exact E8 hdd) (by rw [hfin]))))))))))))))
end
end Go.Proofs.YtpgncndhhhllfaaGreat
