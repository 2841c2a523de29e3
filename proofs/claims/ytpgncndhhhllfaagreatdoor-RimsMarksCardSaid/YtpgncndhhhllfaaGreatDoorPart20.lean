import Derived.Test.YtpgncndhhhllfaaGreatDoorPart06
import Derived.Test.YtpgncndhhhllfaaGreatDoorPart19
namespace Go.Proofs.YtpgncndhhhllfaaGreatDoor
open Go Go.RowKit Go.Proofs.Tryz
set_option linter.unusedVariables false
set_option linter.unusedSimpArgs false
section
set_option maxRecDepth 100000
theorem VM (a b:NV) (hla:(dg a.x).length<=549755813888) (hlb:(dg b.x).length<=549755813888) (w:World) (ha:Holds w (nA a)) (hb:Holds w (nA b)):Calls Tryz.prog 190 #[(nV a),(nV b)] w (F5 w [] (a.x+b.x)):=by
 refine Ah (args:=[(nV a),(nV b)]) (L:=[nA a,nA b]) Tryz.func190 rfl rfl (AY rfl) (Bv rfl ha (Bv rfl hb (Ar))) (AF.subF (sL [0,1] rfl) (q4 (asg' rfl (AD.nil (q2 ?_)))))
 refine asg' rfl (AD.nilRow 3 1 (AD.nil (q2 (asg' rfl (AD.nil ?_)))))
 refine q1 (q4 (asg' rfl (AD.nil (AC.then_ (AF.block ?_)))))
 refine AF.lp5 (tg λ(i:Nat) (cy:Nat) (p:Option Addr) (c:Nat) (ds:List Nat)=>H2 ds/\i=ds.length/\OwnOk p i c/\cy<=1/\val10 ds+10000^i*cy=val10 ((dg a.x).take i)+val10 ((dg b.x).take i)/\(i<=max (dg a.x).length (dg b.x).length\/i<=max (dg a.x).length (dg b.x).length+1/\cy=0)) (tg λ(i:Nat) (cy:Nat) (p:Option Addr) (c:Nat) (ds:List Nat)=>[(0,(nV a)),(1,(nV b)),(4,(Value.slice none 0 0)),(6,(vN cy)),(7,(vN i)),(5,(Value.slice p i c))]) (tg λ(i:Nat) (cy:Nat) (p:Option Addr) (c:Nat) (ds:List Nat)=>[rowW p 3 1 i c (dgL ds),nA a,nA b]) (tg λ(i:Nat) (cy:Nat) (p:Option Addr) (c:Nat) (ds:List Nat)=>max (dg a.x).length (dg b.x).length+2-i) 0 0 none 0 ([]) (⟨PA,rfl,OwnOk.none,by omega,rfl,.inl (by omega)⟩) (sF rfl) sr (λi cy p c ds hJ=>?_)
 obtain ⟨hdd,hk,ho,hcy,hv,hm⟩:=hJ
 have ga:=Fg a.x i
 have gb:=Fg b.x i
 refine AF.seq (q4 (AJ rfl (AJ rfl (AH (v:=(vN ((dg a.x).length))) (AE rfl Tryz.underlying71) rfl (AH (Ad (c:=(decide (i<((dg a.x).length)))) rfl rfl (CB (a:=i) (b:=(dg a.x).length))) rfl ?_)))))
 refine AJ rfl ?_
 refine AD.mid (FM:=[(0,(nV a)),(1,(nV b)),(4,(Value.slice none 0 0)),(6,(vN cy)),(7,(vN i)),(5,(Value.slice p i c)),(9,(vN i)),(10,(nV a)),(11,(vN ((dg a.x).length))),(12,(Value.bool (decide (i<((dg a.x).length))))),(13,(Value.bool (decide (i<((dg a.x).length))))),(18,(Value.bool ((decide (i<((dg a.x).length)))||(decide (i<((dg b.x).length))))))]) (LM:=[rowW p 3 1 i c (dgL ds),nA a,nA b]) 5 ?_ ?_
 ·rcases Bool.eq_false_or_eq_true (decide (i<((dg a.x).length))) with hg1|hg1
  ·skip
   refine AD.retell (k:=13) (u:=Value.bool true) rfl (by rw [hg1]) ?_
   have hg1':=hg1
   replace hg1':=of_decide_eq_true hg1'
   exact AD.skip (AG rfl) rfl (AY rfl) (AD.skip (AG rfl) rfl (AY rfl) (AD.skip (AG rfl) rfl (AY rfl) (AD.skip (AG rfl) rfl (AY rfl) (AH (v:=(Value.bool true)) (AT rfl rfl) rfl (AD.nil (AC.mid (sS rfl (sS rfl (sS rfl (sS rfl (sS rfl (sS rfl (sS rfl (sS rfl (sS rfl (sS rfl (sS (by first|rfl|(rw [hg1];rfl)|rw [hg1]) (sS (by first|rfl|(rw [hg1];rfl)|rw [hg1]) (sN))))))))))))) (List.Sublist.refl _)))))))
  ·skip
   refine AD.retell (k:=13) (u:=Value.bool false) rfl (by rw [hg1]) ?_
   have hg1':=hg1
   replace hg1':=of_decide_eq_false hg1'
   exact AD.step (v:=(vN i)) (AB rfl) (Ai rfl) rfl (AY rfl) (AD.step (v:=(nV b)) (AB rfl) (Ai rfl) rfl (AY rfl) (AD.step (v:=(vN ((dg b.x).length))) (AB rfl) (AE rfl Tryz.underlying71) rfl (AY rfl) (AD.step (v:=(Value.bool (decide (i<((dg b.x).length))))) (AB rfl) (Ad (c:=(decide (i<((dg b.x).length)))) rfl rfl (CB (a:=i) (b:=(dg b.x).length))) rfl (AY rfl) (AH (v:=(Value.bool (decide (i<((dg b.x).length))))) (AV rfl rfl) rfl (AD.nil (AC.mid (sS rfl (sS rfl (sS rfl (sS rfl (sS rfl (sS rfl (sS rfl (sS rfl (sS rfl (sS rfl (sS (by first|rfl|(rw [hg1];rfl)|rw [hg1]) (sS (by first|rfl|(rw [hg1];rfl)|rw [hg1]) (sN))))))))))))) (List.Sublist.refl _)))))))
 refine AJ rfl ?_
 refine AD.mid (FM:=[(0,(nV a)),(1,(nV b)),(4,(Value.slice none 0 0)),(6,(vN cy)),(7,(vN i)),(5,(Value.slice p i c)),(9,(vN i)),(10,(nV a)),(11,(vN ((dg a.x).length))),(12,(Value.bool (decide (i<((dg a.x).length))))),(13,(Value.bool (decide (i<((dg a.x).length))))),(18,(Value.bool ((decide (i<((dg a.x).length)))||(decide (i<((dg b.x).length)))))),(19,(Value.bool ((decide (i<((dg a.x).length)))||(decide (i<((dg b.x).length)))))),(22,(Value.bool (((decide (i<((dg a.x).length)))||(decide (i<((dg b.x).length))))||(decide (0<cy)))))]) (LM:=[rowW p 3 1 i c (dgL ds),nA a,nA b]) 3 ?_ ?_
 ·rcases Bool.eq_false_or_eq_true ((decide (i<((dg a.x).length)))||(decide (i<((dg b.x).length)))) with hg2|hg2
  ·skip
   refine AD.retell (k:=19) (u:=Value.bool true) rfl (by rw [hg2]) ?_
   have hg2':=hg2
   simp only [Bool.and_eq_true,Bool.or_eq_true,Bool.and_eq_false_iff,Bool.or_eq_false_iff,Bool.not_eq_true',Bool.not_eq_false',decide_eq_true_eq,decide_eq_false_iff_not] at hg2'
   exact AD.skip (AG rfl) rfl (AY rfl) (AD.skip (AG rfl) rfl (AY rfl) (AH (v:=(Value.bool true)) (AT rfl rfl) rfl (AD.nil (AC.mid (sS rfl (sS rfl (sS rfl (sS rfl (sS rfl (sS rfl (sS rfl (sS rfl (sS rfl (sS rfl (sS rfl (sS rfl (sS (by first|rfl|(rw [hg2];rfl)|rw [hg2]) (sS (by first|rfl|(rw [hg2];rfl)|rw [hg2]) (sN))))))))))))))) (List.Sublist.refl _)))))
  ·skip
   refine AD.retell (k:=19) (u:=Value.bool false) rfl (by rw [hg2]) ?_
   have hg2':=hg2
   simp only [Bool.and_eq_true,Bool.or_eq_true,Bool.and_eq_false_iff,Bool.or_eq_false_iff,Bool.not_eq_true',Bool.not_eq_false',decide_eq_true_eq,decide_eq_false_iff_not] at hg2'
   exact AD.step (v:=(vN cy)) (AB rfl) (Ai rfl) rfl (AY rfl) (AD.step (v:=(Value.bool (decide (0<cy)))) (AB rfl) (Bg (c:=(decide (0<cy))) rfl rfl (CB (a:=0) (b:=cy))) rfl (AY rfl) (AH (v:=(Value.bool (decide (0<cy)))) (AV rfl rfl) rfl (AD.nil (AC.mid (sS rfl (sS rfl (sS rfl (sS rfl (sS rfl (sS rfl (sS rfl (sS rfl (sS rfl (sS rfl (sS rfl (sS rfl (sS (by first|rfl|(rw [hg2];rfl)|rw [hg2]) (sS (by first|rfl|(rw [hg2];rfl)|rw [hg2]) (sN))))))))))))))) (List.Sublist.refl _)))))
 refine AD.nil (AC.subF (sL [0,1,4,6,7,5,22] rfl) (AC.then_ ?_))
 refine AF.cond rfl (λhc0=>?_) (λhc0=>?_)
 ·simp only [Bool.and_eq_true,Bool.or_eq_true,Bool.and_eq_false_iff,Bool.or_eq_false_iff,Bool.not_eq_true',Bool.not_eq_false',decide_eq_true_eq,decide_eq_false_iff_not] at hc0
  refine AF.skip (q1 (AF.block (q4 (AJ rfl (AJ rfl ?_)))))
  have hz1:=Fg a.x i
  refine DC Tryz.call199 (λw hw=>K2 a i (by omega) w (hw.holds (i:=1) rfl)) rfl (AJ rfl (AJ rfl ?_))
  have hz2:=Fg b.x i
  refine DC Tryz.call199 (λw hw=>K2 b i (by omega) w (hw.holds (i:=2) rfl)) rfl (AH (AW (c:=((((dg a.x).getD i 0)+((dg b.x).getD i 0):Nat):Int)) rfl rfl (AR (a:=(dg a.x).getD i 0) (b:=(dg b.x).getD i 0) (by omega))) rfl (AJ rfl (AH (AW (c:=(((((dg a.x).getD i 0)+((dg b.x).getD i 0))+cy:Nat):Int)) rfl rfl (AR (a:=((dg a.x).getD i 0)+((dg b.x).getD i 0)) (b:=cy) (by omega))) rfl (asg' rfl (q3 (sL [0,1,4,6,7,5,8] rfl) ?_)))))
  refine AJ rfl (AJ rfl (AH (Cg (c:=((((((dg a.x).getD i 0)+((dg b.x).getD i 0))+cy)%10000:Nat):Int)) rfl rfl (by omega) (K7 (a:=(((dg a.x).getD i 0)+((dg b.x).getD i 0))+cy) (b:=10000))) rfl (AD.openV (V:=λb1=>(Value.slice (some ⟨b1,0,none⟩) 1 1)) (T:=3) (cs:=[(vN (((((dg a.x).getD i 0)+((dg b.x).getD i 0))+cy)%10000))]) (AO rfl) (Am (cs:=[(vN (((((dg a.x).getD i 0)+((dg b.x).getD i 0))+cy)%10000))]) (pv:=[(0,(vN (((((dg a.x).getD i 0)+((dg b.x).getD i 0))+cy)%10000)))]) Tryz.underlying71 Tryz.sizeOf3 Tryz.zeroValue3 (by decide) (by decide) rfl (by kernel_rfl)) rfl (AY rfl) λb1=>AD.append1 (j:=0) (cs2:=dgL (ds++[((((dg a.x).getD i 0)+((dg b.x).getD i 0))+cy)%10000])) TF rfl ho (by simp [B_];omega) rfl rfl rfl rfl (by decide) (GR (by omega)) (by omega) (by rw [EK];rfl) rfl λp_1 c_1 ho_1 hne_1=>asg' rfl ?_)))
  refine AD.nil (AC.subF (sL [0,1,4,6,7,5,8] rfl) (AC.then_ (AF.region (AJ rfl (AH (EA (c:=((((((dg a.x).getD i 0)+((dg b.x).getD i 0))+cy)/10000:Nat):Int)) rfl rfl (by omega) (ED (a:=(((dg a.x).getD i 0)+((dg b.x).getD i 0))+cy) (b:=10000) (by omega))) rfl ?_)))))
  refine asg' rfl (AD.nil (AC.subF (sL [0,1,4,6,7,5,8] rfl) (AC.in_normal (AC.then_ (AF.region ?_)))))
  refine AJ rfl (AH (AW (c:=((i+1:Nat):Int)) rfl rfl (AR (a:=i) (b:=1) (by omega))) rfl (asg' rfl (AD.nil (AC.subF (sL [0,1,4,6,7,5,8] rfl) ?_))))
  have hnx:i+1<=max (dg a.x).length (dg b.x).length\/i+1<=max (dg a.x).length (dg b.x).length+1/\((dg a.x).getD i 0+(dg b.x).getD i 0+cy)/10000=0:=by
            by_cases hi:i<max (dg a.x).length (dg b.x).length
            ·exact .inl (by omega)
            ·refine .inr ⟨by omega,?_⟩
             rw [DD (show ¬i<(dg a.x).length by omega),DD (show ¬i<(dg b.x).length by omega)]
             omega
  exact AC.round5 (i+1) (((dg a.x).getD i 0+(dg b.x).getD i 0+cy)/10000) p_1 c_1 (ds++[((dg a.x).getD i 0+(dg b.x).getD i 0+cy)%10000]) (⟨Mf hdd (by omega),by simp [hk],ho_1,by omega,by rw [Bl,Bl];exact SN hk hv rfl,hnx⟩) (by omega) (sF rfl) (sl sr)
 ·simp only [Bool.and_eq_true,Bool.or_eq_true,Bool.and_eq_false_iff,Bool.or_eq_false_iff,Bool.not_eq_true',Bool.not_eq_false',decide_eq_true_eq,decide_eq_false_iff_not] at hc0
  have hfin:val10 ds=a.x+b.x:=by rw [Cc (by omega),Cc (by omega),CJ,CJ,show cy=0 by omega] at hv;simpa using hv
  refine AF.exit (AC.then_exit (AC.round5_exit (AC.in_exit (q2 (AJ rfl ?_)))))
  exact DC (args:=[(Value.slice p i c)]) (v:=(Value.slice p ((dg (val10 ds)).length) c)) Tryz.call200 (λw hw=>(by have h9:=Fr p c ds hdd (by rw [<-hk];exact ho.row) (by omega) w (Iy (hw.holds (i:=0) rfl) ho hk);rw [<-hk] at h9;exact h9)) rfl (asg' rfl (AD.nil (AC.subF (sL [0,1,4,6,7,5] rfl) (AC.then_ (AF.ret (AN rfl (AQ (v:=(Value.slice p ((dg (val10 ds)).length) c)) rfl) (λw hw=>Sj hw (i:=0) rfl ho hk (by rw [<-hfin];exact Eu hdd) (by rw [hfin]))))))))
theorem Om (a b:NV) (hab:b.x<=a.x) (hla:(dg a.x).length<=549755813888) (w:World) (ha:Holds w (nA a)) (hb:Holds w (nA b)):Calls Tryz.prog 197 #[(nV a),(nV b)] w (F5 w [] (a.x-b.x)):=by
 have hlb:=HB hab
 refine Ah (args:=[(nV a),(nV b)]) (L:=[nA a,nA b]) Tryz.func197 rfl rfl (AY rfl) (Bv rfl ha (Bv rfl hb (Ar))) (AF.subF (sL [0,1] rfl) (q4 (asg' rfl (AD.nil (q2 ?_)))))
 refine asg' rfl (AD.nilRow 3 1 (AD.nil (q2 (asg' rfl (AD.nil ?_)))))
 refine q1 (q4 (asg' rfl (AD.nil (AC.then_ (AF.block ?_)))))
 refine AF.lp5 (tg λ(i:Nat) (ld:Nat) (p:Option Addr) (c:Nat) (ds:List Nat)=>H2 ds/\i=ds.length/\OwnOk p i c/\ld<=1/\val10 ds+val10 ((dg b.x).take i)=val10 ((dg a.x).take i)+10000^i*ld/\i<=(dg a.x).length) (tg λ(i:Nat) (ld:Nat) (p:Option Addr) (c:Nat) (ds:List Nat)=>[(0,(nV a)),(1,(nV b)),(4,(Value.slice none 0 0)),(6,(vN ld)),(7,(vN i)),(5,(Value.slice p i c))]) (tg λ(i:Nat) (ld:Nat) (p:Option Addr) (c:Nat) (ds:List Nat)=>[rowW p 3 1 i c (dgL ds),nA a,nA b]) (tg λ(i:Nat) (ld:Nat) (p:Option Addr) (c:Nat) (ds:List Nat)=>(dg a.x).length-i) 0 0 none 0 ([]) (⟨PA,rfl,OwnOk.none,by omega,rfl,by omega⟩) (sF rfl) sr (λi ld p c ds hJ=>?_)
 obtain ⟨hdd,hk,ho,hcy,hv,hm⟩:=hJ
 have ga:=Fg a.x i
 have gb:=Fg b.x i
 refine AF.seq (q4 (AJ rfl (AJ rfl (AH (v:=(vN ((dg a.x).length))) (AE rfl Tryz.underlying71) rfl (AH (Ad (c:=(decide (i<((dg a.x).length)))) rfl rfl (CB (a:=i) (b:=(dg a.x).length))) rfl ?_)))))
 refine AD.nil (AC.subF (sL [0,1,4,6,7,5,12] rfl) (AC.then_ ?_))
 refine AF.cond rfl (λhc0=>?_) (λhc0=>?_)
 ·replace hc0:=of_decide_eq_true hc0
  refine AF.skip (q1 (AF.block (AF.seq (Cw [(0,true),(1,true),(2,true),(3,true),(4,true),(5,true),(8,true),(6,false),(7,true),(9,true),(10,true)] sr (BS rfl ?_)))))
  refine BS rfl (Aw (v:=(pP (pB a.p) (pO a.p+i*1))) rfl (AL (j:=i) rfl rfl a.ok Tryz.underlying71 Tryz.sizeOf3 rfl (by omega)) (Aw rfl (AZ (v:=(vN ((dg a.x).getD i 0))) (i:=1) rfl rfl (a.ok.ne (by omega)) Be (C8 (ds:=dg a.x) (j:=i) (by omega))) (BS rfl (BS rfl (BS rfl ?_)))))
  refine OkE.imp rfl ?_
  have hz1:=Fg b.x i
  refine DC Tryz.call199 (λw hw=>K2 b i (by omega) w (hw.holds (i:=2) rfl)) rfl (OkE.back sr (Aw rfl (BL (c:=((((dg a.x).getD i 0:Nat):Int)-(((dg b.x).getD i 0:Nat):Int))) rfl rfl (BK (by omega) (by omega))) (Aw rfl (BL (c:=((((dg a.x).getD i 0:Nat):Int)-(((dg b.x).getD i 0:Nat):Int)-(ld:Int))) rfl rfl (BK (by omega) (by omega))) (pS' rfl (OkE.nil ?_)))))
  refine AC.subF (sL [0,1,4,6,7,5,8] rfl) (q2 (asg' rfl (AD.nil (q1 (q4 ?_)))))
  refine AJ rfl (AH (Ad (c:=(decide (((((dg a.x).getD i 0:Nat):Int)-(((dg b.x).getD i 0:Nat):Int)-(ld:Int))<(0:Int)))) rfl rfl rfl) rfl (AD.nil (AC.subF (sL [0,1,4,6,7,5,8,26] rfl) (AC.then_ ?_))))
  refine AF.jn2 (tg λ(d:Nat) (ld2:Nat)=>d<10000/\ld2<=1/\d+(dg b.x).getD i 0+ld=(dg a.x).getD i 0+10000*ld2) (tg λ(d:Nat) (ld2:Nat)=>[(0,(nV a)),(1,(nV b)),(4,(Value.slice none 0 0)),(7,(vN i)),(5,(Value.slice p i c)),(8,(vN d)),(6,(vN ld2))]) (tg λ(d:Nat) (ld2:Nat)=>[rowW p 3 1 i c (dgL ds),nA a,nA b]) ?_ ?_
  ·skip
   refine AF.cond rfl (λhc1=>?_) (λhc1=>?_)
   ·replace hc1:=of_decide_eq_true hc1
    refine q4 (AJ rfl (AH (AW (c:=(((dg a.x).getD i 0+10000-(dg b.x).getD i 0-ld:Nat):Int)) rfl rfl (by rw [BK (by omega) (by omega)];omega)) rfl (asg' rfl (AD.nil (AC.subF (sL [0,1,4,6,7,5,8] rfl) ?_)))))
    exact AC.then_ (AF.region (asg' rfl (AD.nil (AC.join2 ((dg a.x).getD i 0+10000-(dg b.x).getD i 0-ld) 1 (⟨by omega,by omega,by omega⟩) (sF rfl) sr))))
   ·replace hc1:=of_decide_eq_false hc1
    exact AF.retell (k:=8) (u:=(vN ((dg a.x).getD i 0-(dg b.x).getD i 0-ld))) rfl (by show Value.int _ _=Value.int _ _;congr 1;omega) (AF.skip (AC.join2 ((dg a.x).getD i 0-(dg b.x).getD i 0-ld) 0 (⟨by omega,by omega,by omega⟩) (sF rfl) sr))
  ·intro d ld2 hJ
   obtain ⟨hd,hl2,hd2⟩:=hJ
   refine AC.then_ (AF.region (AJ rfl (AJ rfl (AD.openV (V:=λb1=>(Value.slice (some ⟨b1,0,none⟩) 1 1)) (T:=3) (cs:=[(vN d)]) (AO rfl) (Am (cs:=[(vN d)]) (pv:=[(0,(vN d))]) Tryz.underlying71 Tryz.sizeOf3 Tryz.zeroValue3 (by decide) (by decide) rfl (by kernel_rfl)) rfl (AY rfl) λb1=>AD.append1 (j:=0) (cs2:=dgL (ds++[d])) TF rfl ho (by simp [B_];omega) rfl rfl rfl rfl (by decide) (GR (by omega)) (by omega) (by rw [EK];rfl) rfl λp_1 c_1 ho_1 hne_1=>?_))))
   refine asg' rfl (AD.nil (AC.subF (sL [0,1,4,7,5,8,6] rfl) (AC.in_normal (AC.then_ (AF.region ?_)))))
   exact AJ rfl (AH (AW (c:=((i+1:Nat):Int)) rfl rfl (AR (a:=i) (b:=1) (by omega))) rfl (asg' rfl (AD.nil (AC.subF (sL [0,1,4,7,5,8,6] rfl) (AC.round5 (i+1) ld2 p_1 c_1 (ds++[d]) (⟨Mf hdd (by omega),by simp [hk],ho_1,by omega,by rw [Bl,Bl];exact LZ hk hv hd2,by omega⟩) (by omega) (sF rfl) (sl sr))))))
 ·replace hc0:=of_decide_eq_false hc0
  have hfin:val10 ds=a.x-b.x:=by
   rw [Cc (by omega),Cc (by omega),CJ,CJ] at hv
   exact L8 hdd hk (by omega) hab hv
  refine AF.exit (AC.then_exit (AC.round5_exit (AC.in_exit (q2 (AJ rfl ?_)))))
  exact DC (args:=[(Value.slice p i c)]) (v:=(Value.slice p ((dg (val10 ds)).length) c)) Tryz.call200 (λw hw=>(by have h9:=Fr p c ds hdd (by rw [<-hk];exact ho.row) (by omega) w (Iy (hw.holds (i:=0) rfl) ho hk);rw [<-hk] at h9;exact h9)) rfl (asg' rfl (AD.nil (AC.subF (sL [0,1,4,6,7,5] rfl) (AC.then_ (AF.ret (AN rfl (AQ (v:=(Value.slice p ((dg (val10 ds)).length) c)) rfl) (λw hw=>Sj hw (i:=0) rfl ho hk (by rw [<-hfin];exact Eu hdd) (by rw [hfin]))))))))
theorem Oe (a b:NV) (hla:(dg a.x).length<=549755813888) (hlb:(dg b.x).length<=549755813888) (w:World) (ha:Holds w (nA a)) (hb:Holds w (nA b)):Calls Tryz.prog 198 #[(nV a),(nV b)] w (An w (vI (Cy a.x b.x))):=by
 refine Ah (args:=[(nV a),(nV b)]) (L:=[nA a,nA b]) Tryz.func198 rfl rfl (AY rfl) (Bv rfl ha (Bv rfl hb (Ar))) (AF.subF (sL [0,1] rfl) (q4 (asg' rfl (AD.nil (q1 ?_)))))
 refine q4 (AJ rfl (AH (v:=(vN ((dg a.x).length))) (AE rfl Tryz.underlying71) rfl (AJ rfl (AH (v:=(vN ((dg b.x).length))) (AE rfl Tryz.underlying71) rfl (AH (Ad (c:=(decide (((dg a.x).length)<((dg b.x).length)))) rfl rfl (CB (a:=(dg a.x).length) (b:=(dg b.x).length))) rfl ?_)))))
 refine AD.nil (AC.subF (sL [0,1,4,10] rfl) (AC.then_ ?_))
 refine AF.cond rfl (λhc0=>?_) (λhc0=>?_)
 ·replace hc0:=of_decide_eq_true hc0
  have hz:Cy a.x b.x = -1:=if_pos (KK hc0)
  exact q4 (asg' rfl (AD.nil (AC.then_ (AF.ret (AC.then_ret (AN rfl (AQ (v:=(vI (-1:Int))) rfl) (λw hw=>⟨by rw [hz],hw.out⟩)))))))
 ·replace hc0:=of_decide_eq_false hc0
  refine AF.skip (q1 (q4 (AJ rfl (AH (v:=(vN ((dg a.x).length))) (AE rfl Tryz.underlying71) rfl (AJ rfl ?_)))))
  refine AH (v:=(vN ((dg b.x).length))) (AE rfl Tryz.underlying71) rfl (AH (Bg (c:=(decide (((dg b.x).length)<((dg a.x).length)))) rfl rfl (CB (a:=(dg b.x).length) (b:=(dg a.x).length))) rfl (AD.nil (AC.subF (sL [0,1,4,15] rfl) (AC.then_ ?_))))
  refine AF.cond rfl (λhc1=>?_) (λhc1=>?_)
  ·replace hc1:=of_decide_eq_true hc1
   have hz:Cy a.x b.x=1:=by
      have h9:=KK hc1
      unfold Cy;rw [if_neg (by omega),if_neg (by omega)]
   exact q4 (asg' rfl (AD.nil (AC.then_ (AF.ret (AC.then_ret (AN rfl (AQ (v:=(vI 1)) rfl) (λw hw=>⟨by rw [hz],hw.out⟩)))))))
  ·replace hc1:=of_decide_eq_false hc1
   refine AF.skip (q1 (q4 (AJ rfl (AH (v:=(vN ((dg a.x).length))) (AE rfl Tryz.underlying71) rfl (AH (BL (c:=((((dg a.x).length:Nat):Int)-1)) rfl rfl (BK (by omega) (by omega))) rfl ?_)))))
   refine asg' rfl (AD.nil (AC.subF (sL [0,1,4,5] rfl) (AC.then_ (AF.block ?_))))
   refine AF.lp1 (tg λ(j:Nat)=>j<=(dg a.x).length/\(dg a.x).drop j=(dg b.x).drop j) (tg λ(j:Nat)=>[(0,(nV a)),(1,(nV b)),(5,(vI (((j:Nat):Int)-1)))]) (tg λ(j:Nat)=>[nA a,nA b]) (tg λ(j:Nat)=>j) ((dg a.x).length) (⟨Nat.le_refl _,by rw [List.drop_length,List.drop_of_length_le (by omega)]⟩) (sF rfl) sr (λj hJ=>?_)
   obtain ⟨hm,hd⟩:=hJ
   have hl:(dg a.x).length=(dg b.x).length:=by omega
   refine AF.seq (q4 (AJ rfl (AH (C_ (c:=(decide ((0:Int)<=(((j:Nat):Int)-1)))) rfl rfl rfl) rfl (AD.nil (AC.subF (sL [0,1,5,20] rfl) ?_)))))
   refine AC.then_ ?_
   refine AF.cond rfl (λhc2=>?_) (λhc2=>?_)
   ·replace hc2:=of_decide_eq_true hc2
    have hdj:(dg a.x).drop (j-1+1)=(dg b.x).drop (j-1+1):=by rw [Nat.sub_add_cancel (by omega)];exact hd
    refine AF.retell (k:=5) (u:=(vN (j-1))) rfl (by show Value.int _ _=Value.int _ _;congr 1;omega) (AF.skip (q1 (AF.block (AF.seq (AF.seq ?_)))))
    refine Cw [(0,true),(1,true),(2,true),(3,true),(4,true),(5,true),(6,true),(7,true),(8,true)] sr (BS rfl (BS rfl (Aw (v:=(pP (pB a.p) (pO a.p+(j-1)*1))) rfl (AL (j:=j-1) rfl rfl a.ok Tryz.underlying71 Tryz.sizeOf3 rfl (by omega)) (Aw rfl (AZ (v:=(vN ((dg a.x).getD (j-1) 0))) (i:=0) rfl rfl (a.ok.ne (by omega)) Be (C8 (ds:=dg a.x) (j:=j-1) (by omega))) (BS rfl ?_)))))
    refine BS rfl (Aw (v:=(pP (pB b.p) (pO b.p+(j-1)*1))) rfl (AL (j:=j-1) rfl rfl b.ok Tryz.underlying71 Tryz.sizeOf3 rfl (by omega)) (Aw rfl (AZ (v:=(vN ((dg b.x).getD (j-1) 0))) (i:=1) rfl rfl (b.ok.ne (by omega)) Be (C8 (ds:=dg b.x) (j:=j-1) (by omega))) (Aw rfl (Ad (c:=(decide (((dg a.x).getD (j-1) 0)<((dg b.x).getD (j-1) 0)))) rfl rfl (CB (a:=(dg a.x).getD (j-1) 0) (b:=(dg b.x).getD (j-1) 0))) (OkE.nil (AC.subF (sL [0,1,5,31] rfl) ?_)))))
    refine AC.then_ ?_
    refine AF.cond rfl (λhc3=>?_) (λhc3=>?_)
    ·replace hc3:=of_decide_eq_true hc3
     have hz:Cy a.x b.x = -1:=if_pos (Sa hl (by omega) hdj hc3)
     refine q4 (asg' rfl (AD.nil (AC.then_ (AF.ret (AC.then_ret ?_)))))
     exact AC.in_ret (AC.then_ret (AC.round1_ret (AC.in_ret (AC.then_ret (AN rfl (AQ (v:=(vI (-1:Int))) rfl) (λw hw=>⟨by rw [hz],hw.out⟩))))))
    ·replace hc3:=of_decide_eq_false hc3
     refine AF.skip (q1 (Cw [(0,true),(1,true),(2,true),(3,true),(4,true),(5,true),(6,true),(7,true),(8,true)] sr (BS rfl (BS rfl (Aw (v:=(pP (pB a.p) (pO a.p+(j-1)*1))) rfl (AL (j:=j-1) rfl rfl a.ok Tryz.underlying71 Tryz.sizeOf3 rfl (by omega)) ?_)))))
     refine Aw rfl (AZ (v:=(vN ((dg a.x).getD (j-1) 0))) (i:=0) rfl rfl (a.ok.ne (by omega)) Be (C8 (ds:=dg a.x) (j:=j-1) (by omega))) (BS rfl (BS rfl (Aw (v:=(pP (pB b.p) (pO b.p+(j-1)*1))) rfl (AL (j:=j-1) rfl rfl b.ok Tryz.underlying71 Tryz.sizeOf3 rfl (by omega)) (Aw rfl (AZ (v:=(vN ((dg b.x).getD (j-1) 0))) (i:=1) rfl rfl (b.ok.ne (by omega)) Be (C8 (ds:=dg b.x) (j:=j-1) (by omega))) (Aw rfl (Bg (c:=(decide (((dg b.x).getD (j-1) 0)<((dg a.x).getD (j-1) 0)))) rfl rfl (CB (a:=(dg b.x).getD (j-1) 0) (b:=(dg a.x).getD (j-1) 0))) ?_)))))
     refine OkE.nil (AC.subF (sL [0,1,5,40] rfl) (AC.then_ ?_))
     refine AF.cond rfl (λhc4=>?_) (λhc4=>?_)
     ·replace hc4:=of_decide_eq_true hc4
      have hz:Cy a.x b.x=1:=by
        have h9:=Sa hl.symm (by omega) hdj.symm hc4
        unfold Cy;rw [if_neg (by omega),if_neg (by omega)]
      refine q4 (asg' rfl (AD.nil (AC.then_ (AF.ret (AC.in_ret ?_)))))
      exact AC.then_ret (AC.round1_ret (AC.in_ret (AC.then_ret (AN rfl (AQ (v:=(vI 1)) rfl) (λw hw=>⟨by rw [hz],hw.out⟩)))))
     ·replace hc4:=of_decide_eq_false hc4
      refine AF.skip (AC.in_normal (AC.then_ (AF.region (AJ rfl (AH (BL (c:=(((j-1:Nat):Int)-1)) rfl rfl (BK (by omega) (by omega))) rfl ?_)))))
      exact asg' rfl (AD.nil (AC.subF (sL [0,1,5] rfl) (AC.round1 (j-1) (⟨by omega,Ls hl (by omega) hdj (by omega)⟩) (by omega) (sF rfl) sr)))
   ·replace hc2:=of_decide_eq_false hc2
    obtain rfl:j=0:=by omega
    have hz:Cy a.x b.x=0:=Li.2 (V6 hd)
    refine AF.exit (AC.then_exit (AC.round1_exit (AC.in_exit (q2 (asg' rfl ?_)))))
    exact AD.nil (AC.then_ (AF.ret (AN rfl (AQ (v:=(vI 0)) rfl) (λw hw=>⟨by rw [hz],hw.out⟩))))
end
section
set_option maxRecDepth 100000
theorem Xg:Lu Tryz.prog 71 3 (vN 0) 8:=⟨Tryz.underlying71,_,_,rfl,rfl,rfl,rfl,rfl⟩
theorem L3 (a:NV) (k:Nat) (hk:k<=1099511627776) (hla:(dg a.x).length<=1099511627776) (hv:a.x/10000^k<9223372036854775808) (w:World) (ha:Holds w (nA a)):Calls Tryz.prog 245 #[(nV a),(vN k)] w (An w (vN (a.x/10000^k))):=by
 refine Ah (args:=[(nV a),(vN k)]) (L:=[nA a]) Tryz.func245 rfl rfl (AY rfl) (Bv rfl ha (Ar)) (AF.subF (sL [0,1] rfl) (q4 (asg' rfl (AD.nil (q2 ?_)))))
 refine asg' rfl (AD.nil (q1 (q4 (AJ rfl (AH (v:=(vN ((dg a.x).length))) (AE rfl Tryz.underlying71) rfl ?_)))))
 refine AH (BL (c:=((((dg a.x).length:Nat):Int)-1)) rfl rfl (BK (by omega) (by omega))) rfl (asg' rfl (AD.nil (AC.subF (sL [0,1,4,5,6] rfl) (AC.then_ (AF.block ?_)))))
 refine AF.lp2 (tg λ(n:Nat) (j:Nat)=>j<=(dg a.x).length/\(k<=j\/j=(dg a.x).length)/\n=a.x/10000^j) (tg λ(n:Nat) (j:Nat)=>[(0,(nV a)),(1,(vN k)),(4,(vI 0)),(5,(vN n)),(6,(vI (((j:Nat):Int)-1)))]) (tg λ(n:Nat) (j:Nat)=>[nA a]) (tg λ(n:Nat) (j:Nat)=>j) 0 ((dg a.x).length) (⟨Nat.le_refl _,.inr rfl,(Tw a.x).symm⟩) (sF rfl) sr (λn j hJ=>?_)
 obtain ⟨hm,hkj,hn⟩:=hJ
 refine AF.seq (q4 (AJ rfl (AJ rfl (AH (C_ (c:=(decide (((k:Nat):Int)<=(((j:Nat):Int)-1)))) rfl rfl rfl) rfl (AD.nil ?_)))))
 refine AC.subF (sL [0,1,4,5,6,12] rfl) (AC.then_ ?_)
 refine AF.cond rfl (λhc0=>?_) (λhc0=>?_)
 ·replace hc0:=of_decide_eq_true hc0
  have hj1:1<=j:=by omega
  have hst:=PG a.x (j-1)
  rw [Nat.sub_add_cancel hj1,<-hn] at hst
  have hle:=JS a.x (show k<=j-1 by omega)
  refine AF.retell (k:=6) (u:=(vN (j-1))) rfl (by show Value.int _ _=Value.int _ _;congr 1;omega) (AF.skip (q1 (AF.block (AF.region (AJ rfl ?_)))))
  refine AH (DH (c:=((10000*n:Nat):Int)) rfl rfl (E1 (a:=10000) (b:=n) (by omega))) rfl (AJ rfl (AJ rfl (AH (v:=(pP (pB a.p) (pO a.p+(j-1)*1))) (AL (j:=j-1) rfl rfl a.ok Tryz.underlying71 Tryz.sizeOf3 rfl (by omega)) rfl (AH (AZ (v:=(vN ((dg a.x).getD (j-1) 0))) (i:=0) rfl rfl (a.ok.ne (by omega)) Be (C8 (ds:=dg a.x) (j:=j-1) (by omega))) rfl (AH (AW (c:=(((10000*n)+((dg a.x).getD (j-1) 0):Nat):Int)) rfl rfl (AR (a:=10000*n) (b:=(dg a.x).getD (j-1) 0) (by omega))) rfl ?_)))))
  refine asg' rfl (AD.nil (AC.subF (sL [0,1,4,5,6] rfl) (AC.in_normal (AC.then_ (AF.region ?_)))))
  exact AJ rfl (AH (BL (c:=(((j-1:Nat):Int)-1)) rfl rfl (BK (by omega) (by omega))) rfl (asg' rfl (AD.nil (AC.subF (sL [0,1,4,5,6] rfl) (AC.round2 ((10000*n)+((dg a.x).getD (j-1) 0)) (j-1) (⟨by omega,by omega,by omega⟩) (by omega) (sF rfl) sr)))))
 ·replace hc0:=of_decide_eq_false hc0
  have hfin:n=a.x/10000^k:=Lw hn hkj (by omega)
  refine AF.exit (AC.then_exit (AC.round2_exit (AC.in_exit (q2 (AJ rfl ?_)))))
  exact asg' rfl (AD.nil (AC.subF (sL [0,1,4,5,6] rfl) (AC.then_ (AF.ret (AN rfl (AQ (v:=(vN n)) rfl) (λw hw=>⟨by rw [hfin],hw.out⟩))))))
theorem Lo (a b:NV) (hla:(dg a.x).length<=549755813888) (hlb:(dg b.x).length<=549755813888) (w:World) (ha:Holds w (nA a)) (hb:Holds w (nA b)):Calls Tryz.prog 143 #[(nV a),(nV b)] w (F5 w [] (a.x*b.x)):=by
 refine Ah (args:=[(nV a),(nV b)]) (L:=[nA a,nA b]) Tryz.func143 rfl rfl (AY rfl) (Bv rfl ha (Bv rfl hb (Ar))) (AF.subF (sL [0,1] rfl) (q4 (asg' rfl (AD.nil (q2 ?_)))))
 refine AJ rfl (AH (v:=(vN ((dg a.x).length))) (AE rfl Tryz.underlying71) rfl (AJ rfl (AH (v:=(vN ((dg b.x).length))) (AE rfl Tryz.underlying71) rfl (AH (AW (c:=((((dg a.x).length)+((dg b.x).length):Nat):Int)) rfl rfl (AR (a:=(dg a.x).length) (b:=(dg b.x).length) (by omega))) rfl (AD.makeDig (m:=((dg a.x).length)+((dg b.x).length)) Xg rfl rfl (by omega) rfl rfl λb1 ho_b1=>?_)))))
 refine asg' rfl (q6 (sL [0,1,4,5] rfl) (q4 (asg' rfl (AD.nil (AC.then_ ?_)))))
 refine AF.block ?_
 refine AF.lp2 (tg λ(i:Nat) (ds:List Nat)=>H2 ds/\(dg a.x).length+(dg b.x).length=ds.length/\i<=(dg a.x).length/\val10 ds=val10 ((dg a.x).take i)*b.x) (tg λ(i:Nat) (ds:List Nat)=>[(0,(nV a)),(1,(nV b)),(4,(Value.slice none 0 0)),(5,(Value.slice (some ⟨b1,0,none⟩) (((dg a.x).length)+((dg b.x).length)) (((dg a.x).length)+((dg b.x).length)))),(6,(vN i))]) (tg λ(i:Nat) (ds:List Nat)=>[rowW (some ⟨b1,0,none⟩) 3 1 ((dg a.x).length+(dg b.x).length) ((dg a.x).length+(dg b.x).length) (dgL ds),nA a,nA b]) (tg λ(i:Nat) (ds:List Nat)=>(dg a.x).length-i) 0 (List.replicate ((dg a.x).length+(dg b.x).length) 0) (⟨Ko _,by simp,Nat.zero_le _,by rw [H7];simp [val10]⟩) (sF rfl) sr (λi ds hJ=>?_)
 obtain ⟨hdd,hk,hm,hv⟩:=hJ
 have ga:=Fg a.x i
 refine AF.seq (q4 (AJ rfl (AJ rfl (AH (v:=(vN ((dg a.x).length))) (AE rfl Tryz.underlying71) rfl (AH (Ad (c:=(decide (i<((dg a.x).length)))) rfl rfl (CB (a:=i) (b:=(dg a.x).length))) rfl ?_)))))
 refine AD.nil (AC.subF (sL [0,1,4,5,6,19] rfl) (AC.then_ ?_))
 refine AF.cond rfl (λhc0=>?_) (λhc0=>?_)
 ·replace hc0:=of_decide_eq_true hc0
  refine AF.skip (q1 (AF.block (q4 (asg' rfl (AD.nil ?_)))))
  refine q2 (asg' rfl (AD.nil (AC.then_ (AF.block ?_))))
  refine AF.lp3 (tg λ(cy:Nat) (k:Nat) (es:List Nat)=>H2 es/\(dg a.x).length+(dg b.x).length=es.length/\cy<10000/\(k<=(dg b.x).length\/k=(dg b.x).length+1/\cy=0)/\val10 es+10000^(i+k)*cy=val10 ds+10000^i*(dg a.x).getD i 0*val10 ((dg b.x).take k)) (tg λ(cy:Nat) (k:Nat) (es:List Nat)=>[(0,(nV a)),(1,(nV b)),(4,(Value.slice none 0 0)),(5,(Value.slice (some ⟨b1,0,none⟩) (((dg a.x).length)+((dg b.x).length)) (((dg a.x).length)+((dg b.x).length)))),(6,(vN i)),(7,(vN cy)),(8,(vN k))]) (tg λ(cy:Nat) (k:Nat) (es:List Nat)=>[rowW (some ⟨b1,0,none⟩) 3 1 ((dg a.x).length+(dg b.x).length) ((dg a.x).length+(dg b.x).length) (dgL es),nA a,nA b]) (tg λ(cy:Nat) (k:Nat) (es:List Nat)=>(dg b.x).length+2-k) 0 0 ds (⟨hdd,hk,by omega,.inl (Nat.zero_le _),by simp [val10]⟩) (sF rfl) sr (λcy k es hJ=>?_)
  obtain ⟨hee,hke,hcy,hme,hve⟩:=hJ
  have gb:=Fg b.x k
  have ge:=VF hee (i+k)
  have hbd:=Qa ge ga gb hcy
  have hab:(dg a.x).getD i 0*(dg b.x).getD k 0<=9999*9999:=Nat.mul_le_mul (by omega) (by omega)
  refine AF.seq (q4 (AJ rfl (AJ rfl (AH (v:=(vN ((dg b.x).length))) (AE rfl Tryz.underlying71) rfl (AH (Ad (c:=(decide (k<((dg b.x).length)))) rfl rfl (CB (a:=k) (b:=(dg b.x).length))) rfl ?_)))))
  refine AJ rfl ?_
  refine AD.mid (FM:=[(0,(nV a)),(1,(nV b)),(4,(Value.slice none 0 0)),(5,(Value.slice (some ⟨b1,0,none⟩) (((dg a.x).length)+((dg b.x).length)) (((dg a.x).length)+((dg b.x).length)))),(6,(vN i)),(7,(vN cy)),(8,(vN k)),(22,(vN k)),(23,(nV b)),(24,(vN ((dg b.x).length))),(25,(Value.bool (decide (k<((dg b.x).length))))),(26,(Value.bool (decide (k<((dg b.x).length))))),(29,(Value.bool ((decide (k<((dg b.x).length)))||(decide (0<cy)))))]) (LM:=[rowW (some ⟨b1,0,none⟩) 3 1 ((dg a.x).length+(dg b.x).length) ((dg a.x).length+(dg b.x).length) (dgL es),nA a,nA b]) 3 ?_ ?_
  ·rcases Bool.eq_false_or_eq_true (decide (k<((dg b.x).length))) with hg1|hg1
   ·skip
    refine AD.retell (k:=26) (u:=Value.bool true) rfl (by rw [hg1]) ?_
    have hg1':=hg1
    replace hg1':=of_decide_eq_true hg1'
    exact AD.skip (AG rfl) rfl (AY rfl) (AD.skip (AG rfl) rfl (AY rfl) (AH (v:=(Value.bool true)) (AT rfl rfl) rfl (AD.nil (AC.mid (sS rfl (sS rfl (sS rfl (sS rfl (sS rfl (sS rfl (sS rfl (sS rfl (sS rfl (sS rfl (sS rfl (sS (by first|rfl|(rw [hg1];rfl)|rw [hg1]) (sS (by first|rfl|(rw [hg1];rfl)|rw [hg1]) (sN)))))))))))))) (List.Sublist.refl _)))))
   ·skip
    refine AD.retell (k:=26) (u:=Value.bool false) rfl (by rw [hg1]) ?_
    have hg1':=hg1
    replace hg1':=of_decide_eq_false hg1'
    exact AD.step (v:=(vN cy)) (AB rfl) (Ai rfl) rfl (AY rfl) (AD.step (v:=(Value.bool (decide (0<cy)))) (AB rfl) (Bg (c:=(decide (0<cy))) rfl rfl (CB (a:=0) (b:=cy))) rfl (AY rfl) (AH (v:=(Value.bool (decide (0<cy)))) (AV rfl rfl) rfl (AD.nil (AC.mid (sS rfl (sS rfl (sS rfl (sS rfl (sS rfl (sS rfl (sS rfl (sS rfl (sS rfl (sS rfl (sS rfl (sS (by first|rfl|(rw [hg1];rfl)|rw [hg1]) (sS (by first|rfl|(rw [hg1];rfl)|rw [hg1]) (sN)))))))))))))) (List.Sublist.refl _)))))
  refine AD.nil (AC.subF (sL [0,1,4,5,6,7,8,29] rfl) (AC.then_ ?_))
  refine AF.cond rfl (λhc1=>?_) (λhc1=>?_)
  ·simp only [Bool.and_eq_true,Bool.or_eq_true,Bool.and_eq_false_iff,Bool.or_eq_false_iff,Bool.not_eq_true',Bool.not_eq_false',decide_eq_true_eq,decide_eq_false_iff_not] at hc1
   refine AF.skip (q1 (AF.block (AF.seq (Cw [(0,true),(1,true),(2,true),(3,true),(4,true),(5,true),(6,true),(7,true),(8,true),(9,true),(10,true),(11,true),(15,true),(12,false),(13,true),(14,true),(16,true),(17,true)] sr (BS rfl ?_)))))
   refine BS rfl (BS rfl (Aw rfl (AW (c:=((i+k:Nat):Int)) rfl rfl (AR (a:=i) (b:=k) (by omega))) (Aw (v:=(pP (pB (some ⟨b1,0,none⟩)) (pO (some ⟨b1,0,none⟩)+(i+k)*1))) rfl (AL (j:=i+k) rfl rfl ho_b1.row Tryz.underlying71 Tryz.sizeOf3 rfl (by omega)) (Aw rfl (Bn (v:=(vN (es.getD (i+k) 0))) (i:=0) rfl rfl ho_b1 (by simp [B_];omega) (ho_b1.row.ne (by omega)) Be (C8 (ds:=es) (j:=i+k) (by omega))) (BS rfl ?_)))))
   refine BS rfl (Aw (v:=(pP (pB a.p) (pO a.p+i*1))) rfl (AL (j:=i) rfl rfl a.ok Tryz.underlying71 Tryz.sizeOf3 rfl (by omega)) (Aw rfl (AZ (v:=(vN ((dg a.x).getD i 0))) (i:=1) rfl rfl (a.ok.ne (by omega)) Be (C8 (ds:=dg a.x) (j:=i) (by omega))) (BS rfl (BS rfl (BS rfl ?_)))))
   refine OkE.imp rfl ?_
   have hz1:=Fg b.x k
   refine DC Tryz.call199 (λw hw=>K2 b k (by omega) w (hw.holds (i:=2) rfl)) rfl (OkE.back sr (Aw rfl (DH (c:=((((dg a.x).getD i 0)*((dg b.x).getD k 0):Nat):Int)) rfl rfl (E1 (a:=(dg a.x).getD i 0) (b:=(dg b.x).getD k 0) (by omega))) (Aw rfl (AW (c:=(((es.getD (i+k) 0)+(((dg a.x).getD i 0)*((dg b.x).getD k 0)):Nat):Int)) rfl rfl (AR (a:=es.getD (i+k) 0) (b:=((dg a.x).getD i 0)*((dg b.x).getD k 0)) (by omega))) (Aw rfl (AW (c:=((((es.getD (i+k) 0)+(((dg a.x).getD i 0)*((dg b.x).getD k 0)))+cy:Nat):Int)) rfl rfl (AR (a:=(es.getD (i+k) 0)+(((dg a.x).getD i 0)*((dg b.x).getD k 0))) (b:=cy) (by omega))) (pS' rfl ?_)))))
   refine OkE.nil (AC.subF (sL [0,1,4,5,6,7,8,9] rfl) (q2 (AJ rfl (AJ rfl (AJ rfl ?_)))))
   refine AH (AW (c:=((i+k:Nat):Int)) rfl rfl (AR (a:=i) (b:=k) (by omega))) rfl (AJ rfl (AH (Cg (c:=(((((es.getD (i+k) 0)+(((dg a.x).getD i 0)*((dg b.x).getD k 0)))+cy)%10000:Nat):Int)) rfl rfl (by omega) (K7 (a:=((es.getD (i+k) 0)+(((dg a.x).getD i 0)*((dg b.x).getD k 0)))+cy) (b:=10000))) rfl (AH (v:=(pP (pB (some ⟨b1,0,none⟩)) (pO (some ⟨b1,0,none⟩)+(i+k)*1))) (AL (j:=i+k) rfl rfl ho_b1.row Tryz.underlying71 Tryz.sizeOf3 rfl (by omega)) rfl (AD.storeRow0 (j:=i+k) (v:=(vN ((((es.getD (i+k) 0)+(((dg a.x).getD i 0)*((dg b.x).getD k 0)))+cy)%10000))) rfl rfl ho_b1 (by simp [B_];omega) (by omega) rfl Tryz.sizeOf3 rfl (Pb _ _ _) (AD.nil ?_)))))
   refine AC.subF (sL [0,1,4,5,6,7,8,9] rfl) (AC.then_ (AF.region (AJ rfl (AH (EA (c:=(((((es.getD (i+k) 0)+(((dg a.x).getD i 0)*((dg b.x).getD k 0)))+cy)/10000:Nat):Int)) rfl rfl (by omega) (ED (a:=((es.getD (i+k) 0)+(((dg a.x).getD i 0)*((dg b.x).getD k 0)))+cy) (b:=10000) (by omega))) rfl (asg' rfl ?_)))))
   refine AD.nil (AC.subF (sL [0,1,4,5,6,7,8,9] rfl) (AC.in_normal (AC.then_ (AF.region (AJ rfl ?_)))))
   refine AH (AW (c:=((k+1:Nat):Int)) rfl rfl (AR (a:=k) (b:=1) (by omega))) rfl (asg' rfl (AD.nil (AC.subF (sL [0,1,4,5,6,7,8,9] rfl) ?_)))
   have hnx:k+1<=(dg b.x).length\/k+1=(dg b.x).length+1/\(es.getD (i+k) 0+(dg a.x).getD i 0*(dg b.x).getD k 0+cy)/10000=0:=by
            by_cases hkb:k<(dg b.x).length
            ·exact .inl (by omega)
            ·obtain rfl:k=(dg b.x).length:=by omega
             refine .inr ⟨rfl,?_⟩
             rw [Cc (by omega),CJ] at hve
             have h9:=Rr (hV:=Uv a.x b.x i hv) hve
             rw [DD (show ¬(dg b.x).length<(dg b.x).length by omega),Nat.mul_zero,Nat.add_zero]
             omega
   exact AC.round3 ((((es.getD (i+k) 0)+(((dg a.x).getD i 0)*((dg b.x).getD k 0)))+cy)/10000) (k+1) (es.set (i+k) ((es.getD (i+k) 0+(dg a.x).getD i 0*(dg b.x).getD k 0+cy)%10000)) (⟨Pk hee (by omega),by simpa using hke,by omega,hnx,by rw [Bl];exact OH (by omega) hve rfl⟩) (by omega) (sF rfl) sr
  ·simp only [Bool.and_eq_true,Bool.or_eq_true,Bool.and_eq_false_iff,Bool.or_eq_false_iff,Bool.not_eq_true',Bool.not_eq_false',decide_eq_true_eq,decide_eq_false_iff_not] at hc1
   have hve2:val10 es=val10 ((dg a.x).take (i+1))*b.x:=by
        rw [show cy=0 by omega,Cc (by omega),CJ,hv,Nat.mul_zero,Nat.add_zero] at hve
        rw [hve,Bl,Nat.add_mul]
   refine AF.exit (AC.then_exit (AC.round3_exit (AC.in_exit (AC.in_normal (AC.then_ ?_)))))
   exact AF.region (AJ rfl (AH (AW (c:=((i+1:Nat):Int)) rfl rfl (AR (a:=i) (b:=1) (by omega))) rfl (asg' rfl (AD.nil (AC.subF (sL [0,1,4,5,6,7,8] rfl) (AC.round2 (i+1) es (⟨hee,hke,by omega,hve2⟩) (by omega) (sF rfl) sr))))))
 ·replace hc0:=of_decide_eq_false hc0
  have hfin:val10 ds=a.x*b.x:=by rw [hv,Cc (by omega),CJ]
  refine AF.exit (AC.then_exit (AC.round2_exit (AC.in_exit (q2 (AJ rfl ?_)))))
  exact DC (args:=[(Value.slice (some ⟨b1,0,none⟩) (((dg a.x).length)+((dg b.x).length)) (((dg a.x).length)+((dg b.x).length)))]) (v:=(Value.slice (some ⟨b1,0,none⟩) ((dg (val10 ds)).length) (((dg a.x).length)+((dg b.x).length)))) Tryz.call200 (λw hw=>(by have h9:=Fr (some ⟨b1,0,none⟩) (((dg a.x).length)+((dg b.x).length)) ds hdd (by rw [<-hk];exact ho_b1.row) (by omega) w (Iy (hw.holds (i:=0) rfl) ho_b1 hk);rw [<-hk] at h9;exact h9)) rfl (asg' rfl (AD.nil (AC.subF (sL [0,1,4,5,6] rfl) (AC.then_ (AF.ret (AN rfl (AQ (v:=(Value.slice (some ⟨b1,0,none⟩) ((dg (val10 ds)).length) (((dg a.x).length)+((dg b.x).length)))) rfl) (λw hw=>Sj hw (i:=0) rfl ho_b1 hk (by rw [<-hfin];exact Eu hdd) (by rw [hfin]))))))))
end
end Go.Proofs.YtpgncndhhhllfaaGreatDoor
