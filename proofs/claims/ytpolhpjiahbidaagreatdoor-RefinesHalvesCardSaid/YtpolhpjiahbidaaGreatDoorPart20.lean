import Derived.Test.YtpolhpjiahbidaaGreatDoorPart05
import Derived.Test.YtpolhpjiahbidaaGreatDoorPart19
namespace Go.Proofs.YtpolhpjiahbidaaGreatDoor
open Go Go.RowKit Go.Proofs.Tryz
set_option linter.unusedVariables false
set_option linter.unusedSimpArgs false
section
set_option maxRecDepth 100000
theorem X5:SJ Tryz.prog 79 3 (vN 0) 8:=⟨Tryz.underlying79,_,_,rfl,rfl,rfl,rfl,rfl⟩
theorem MW (a:NV) (k:Nat) (hk:k<=1099511627776) (hla:(dg a.x).length<=1099511627776) (hv:a.x/10000^k<9223372036854775808) (w:World) (ha:Holds w (nA a)):Calls Tryz.prog 245 #[(nV a),(vN k)] w (Ai w (vN (a.x/10000^k))):=by
 refine Aa (args:=[(nV a),(vN k)]) (L:=[nA a]) Tryz.func245 rfl rfl (AK rfl) (Bs rfl ha (Al)) (OkC.subF (sL [0,1] rfl) (q4 (asg' rfl (OkL.nil (q2 (asg' rfl (OkL.nil (q1 (q4 (AO rfl (AG (v:=(vN ((dg a.x).length))) (AD rfl Tryz.underlying79) rfl ?_)))))))))))
 refine AG (BJ (c:=((((dg a.x).length:Nat):Int)-1)) rfl rfl (BD (by omega) (by omega))) rfl (asg' rfl (OkL.nil (OkQ.subF (sL [0,1,4,5,6] rfl) (OkQ.then_ (OkC.block ?_)))))
 refine OkC.lp2 (tg λ(n:Nat) (j:Nat)=>j<=(dg a.x).length/\(k<=j\/j=(dg a.x).length)/\n=a.x/10000^j) (tg λ(n:Nat) (j:Nat)=>[(0,(nV a)),(1,(vN k)),(4,(vI 0)),(5,(vN n)),(6,(vI (((j:Nat):Int)-1)))]) (tg λ(n:Nat) (j:Nat)=>[nA a]) (tg λ(n:Nat) (j:Nat)=>j) 0 ((dg a.x).length) (⟨Nat.le_refl _,.inr rfl,(Rw a.x).symm⟩) (sF rfl) sr (λn j hJ=>?_)
 obtain ⟨hm,hkj,hn⟩:=hJ
 refine OkC.seq (q4 (AO rfl (AO rfl (AG (B_ (c:=(decide (((k:Nat):Int)<=(((j:Nat):Int)-1)))) rfl rfl rfl) rfl (OkL.nil (OkQ.subF (sL [0,1,4,5,6,12] rfl) (OkQ.then_ ?_)))))))
 refine OkC.cond rfl (λhc0=>?_) (λhc0=>?_)
 ·replace hc0:=of_decide_eq_true hc0
  have hj1:1<=j:=by omega
  have hst:=Pk a.x (j-1)
  rw [Nat.sub_add_cancel hj1,<-hn] at hst
  have hle:=I8 a.x (show k<=j-1 by omega)
  refine OkC.retell (k:=6) (u:=(vN (j-1))) rfl (by show Value.int _ _=Value.int _ _;congr 1;omega) (OkC.skip (q1 (OkC.block (OkC.region (AO rfl (AG (Cr (c:=((10000*n:Nat):Int)) rfl rfl (DN (a:=10000) (b:=n) (by omega))) rfl (AO rfl (AO rfl (AG (v:=(pP (pB a.p) (pO a.p+(j-1)*1))) (AI (j:=j-1) rfl rfl a.ok Tryz.underlying79 Tryz.sizeOf3 rfl (by omega)) rfl (AG (AQ (v:=(vN ((dg a.x).getD (j-1) 0))) (i:=0) rfl rfl (a.ok.ne (by omega)) BH (DD (ds:=dg a.x) (j:=j-1) (by omega))) rfl (AG (AY (c:=(((10000*n)+((dg a.x).getD (j-1) 0):Nat):Int)) rfl rfl (AT (a:=10000*n) (b:=(dg a.x).getD (j-1) 0) (by omega))) rfl ?_)))))))))))
  exact asg' rfl (OkL.nil (OkQ.subF (sL [0,1,4,5,6] rfl) (OkQ.in_normal (OkQ.then_ (OkC.region (AO rfl (AG (BJ (c:=(((j-1:Nat):Int)-1)) rfl rfl (BD (by omega) (by omega))) rfl (asg' rfl (OkL.nil (OkQ.subF (sL [0,1,4,5,6] rfl) (OkQ.round2 ((10000*n)+((dg a.x).getD (j-1) 0)) (j-1) (⟨by omega,by omega,by omega⟩) (by omega) (sF rfl) sr)))))))))))
 ·replace hc0:=of_decide_eq_false hc0
  have hfin:n=a.x/10000^k:=MP hn hkj (by omega)
  exact OkC.exit (OkQ.then_exit (OkQ.round2_exit (OkQ.in_exit (q2 (AO rfl (asg' rfl (OkL.nil (OkQ.subF (sL [0,1,4,5,6] rfl) (OkQ.then_ (OkC.ret (ret_one rfl (rd_tmp (v:=(vN n)) rfl) (λw hw=>⟨by rw [hfin],hw.out⟩))))))))))))
theorem Lk (a b:NV) (hla:(dg a.x).length<=549755813888) (hlb:(dg b.x).length<=549755813888) (w:World) (ha:Holds w (nA a)) (hb:Holds w (nA b)):Calls Tryz.prog 162 #[(nV a),(nV b)] w (F7 w [] (a.x*b.x)):=by
 refine Aa (args:=[(nV a),(nV b)]) (L:=[nA a,nA b]) Tryz.func162 rfl rfl (AK rfl) (Bs rfl ha (Bs rfl hb (Al))) (OkC.subF (sL [0,1] rfl) (q4 (asg' rfl (OkL.nil (q2 (AO rfl (AG (v:=(vN ((dg a.x).length))) (AD rfl Tryz.underlying79) rfl (AO rfl (AG (v:=(vN ((dg b.x).length))) (AD rfl Tryz.underlying79) rfl (AG (AY (c:=((((dg a.x).length)+((dg b.x).length):Nat):Int)) rfl rfl (AT (a:=(dg a.x).length) (b:=(dg b.x).length) (by omega))) rfl (OkL.makeDig (m:=((dg a.x).length)+((dg b.x).length)) X5 rfl rfl (by omega) rfl rfl λb1 ho_b1=>?_)))))))))))
 refine asg' rfl (q6 (sL [0,1,4,5] rfl) (q4 (asg' rfl (OkL.nil (OkQ.then_ (OkC.block ?_))))))
 refine OkC.lp2 (tg λ(i:Nat) (ds:List Nat)=>IB ds/\(dg a.x).length+(dg b.x).length=ds.length/\i<=(dg a.x).length/\val10 ds=val10 ((dg a.x).take i)*b.x) (tg λ(i:Nat) (ds:List Nat)=>[(0,(nV a)),(1,(nV b)),(4,(Value.slice none 0 0)),(5,(Value.slice (some ⟨b1,0,none⟩) (((dg a.x).length)+((dg b.x).length)) (((dg a.x).length)+((dg b.x).length)))),(6,(vN i))]) (tg λ(i:Nat) (ds:List Nat)=>[rowW (some ⟨b1,0,none⟩) 3 1 ((dg a.x).length+(dg b.x).length) ((dg a.x).length+(dg b.x).length) (dgL ds),nA a,nA b]) (tg λ(i:Nat) (ds:List Nat)=>(dg a.x).length-i) 0 (List.replicate ((dg a.x).length+(dg b.x).length) 0) (⟨Kt _,by simp,Nat.zero_le _,by rw [IC];simp [val10]⟩) (sF rfl) sr (λi ds hJ=>?_)
 obtain ⟨hdd,hk,hm,hv⟩:=hJ
 have ga:=Fl a.x i
 refine OkC.seq (q4 (AO rfl (AO rfl (AG (v:=(vN ((dg a.x).length))) (AD rfl Tryz.underlying79) rfl (AG (Af (c:=(decide (i<((dg a.x).length)))) rfl rfl (B9 (a:=i) (b:=(dg a.x).length))) rfl (OkL.nil (OkQ.subF (sL [0,1,4,5,6,19] rfl) (OkQ.then_ ?_))))))))
 refine OkC.cond rfl (λhc0=>?_) (λhc0=>?_)
 ·replace hc0:=of_decide_eq_true hc0
  refine OkC.skip (q1 (OkC.block (q4 (asg' rfl (OkL.nil (q2 (asg' rfl (OkL.nil (OkQ.then_ (OkC.block ?_))))))))))
  refine OkC.lp3 (tg λ(cy:Nat) (k:Nat) (es:List Nat)=>IB es/\(dg a.x).length+(dg b.x).length=es.length/\cy<10000/\(k<=(dg b.x).length\/k=(dg b.x).length+1/\cy=0)/\val10 es+10000^(i+k)*cy=val10 ds+10000^i*(dg a.x).getD i 0*val10 ((dg b.x).take k)) (tg λ(cy:Nat) (k:Nat) (es:List Nat)=>[(0,(nV a)),(1,(nV b)),(4,(Value.slice none 0 0)),(5,(Value.slice (some ⟨b1,0,none⟩) (((dg a.x).length)+((dg b.x).length)) (((dg a.x).length)+((dg b.x).length)))),(6,(vN i)),(7,(vN cy)),(8,(vN k))]) (tg λ(cy:Nat) (k:Nat) (es:List Nat)=>[rowW (some ⟨b1,0,none⟩) 3 1 ((dg a.x).length+(dg b.x).length) ((dg a.x).length+(dg b.x).length) (dgL es),nA a,nA b]) (tg λ(cy:Nat) (k:Nat) (es:List Nat)=>(dg b.x).length+2-k) 0 0 ds (⟨hdd,hk,by omega,.inl (Nat.zero_le _),by simp [val10]⟩) (sF rfl) sr (λcy k es hJ=>?_)
  obtain ⟨hee,hke,hcy,hme,hve⟩:=hJ
  have gb:=Fl b.x k
  have ge:=U6 hee (i+k)
  have hbd:=Px ge ga gb hcy
  have hab:(dg a.x).getD i 0*(dg b.x).getD k 0<=9999*9999:=Nat.mul_le_mul (by omega) (by omega)
  refine OkC.seq (q4 (AO rfl (AO rfl (AG (v:=(vN ((dg b.x).length))) (AD rfl Tryz.underlying79) rfl (AG (Af (c:=(decide (k<((dg b.x).length)))) rfl rfl (B9 (a:=k) (b:=(dg b.x).length))) rfl (AO rfl ?_))))))
  refine OkL.mid (FM:=[(0,(nV a)),(1,(nV b)),(4,(Value.slice none 0 0)),(5,(Value.slice (some ⟨b1,0,none⟩) (((dg a.x).length)+((dg b.x).length)) (((dg a.x).length)+((dg b.x).length)))),(6,(vN i)),(7,(vN cy)),(8,(vN k)),(22,(vN k)),(23,(nV b)),(24,(vN ((dg b.x).length))),(25,(Value.bool (decide (k<((dg b.x).length))))),(26,(Value.bool (decide (k<((dg b.x).length))))),(29,(Value.bool ((decide (k<((dg b.x).length)))||(decide (0<cy)))))]) (LM:=[rowW (some ⟨b1,0,none⟩) 3 1 ((dg a.x).length+(dg b.x).length) ((dg a.x).length+(dg b.x).length) (dgL es),nA a,nA b]) 3 ?_ ?_
  ·rcases Bool.eq_false_or_eq_true (decide (k<((dg b.x).length))) with hg1|hg1
   ·skip
    refine OkL.retell (k:=26) (u:=Value.bool true) rfl (by rw [hg1]) ?_
    have hg1':=hg1
    replace hg1':=of_decide_eq_true hg1'
    exact OkL.skip (AC rfl) rfl (AK rfl) (OkL.skip (AC rfl) rfl (AK rfl) (AG (v:=(Value.bool true)) (AN rfl rfl) rfl (OkL.nil (OkQ.mid (sS rfl (sS rfl (sS rfl (sS rfl (sS rfl (sS rfl (sS rfl (sS rfl (sS rfl (sS rfl (sS rfl (sS (by first|rfl|(rw [hg1];rfl)|rw [hg1]) (sS (by first|rfl|(rw [hg1];rfl)|rw [hg1]) (sN)))))))))))))) (List.Sublist.refl _)))))
   ·skip
    refine OkL.retell (k:=26) (u:=Value.bool false) rfl (by rw [hg1]) ?_
    have hg1':=hg1
    replace hg1':=of_decide_eq_false hg1'
    exact OkL.step (v:=(vN cy)) (AB rfl) (Ac rfl) rfl (AK rfl) (OkL.step (v:=(Value.bool (decide (0<cy)))) (AB rfl) (B6 (c:=(decide (0<cy))) rfl rfl (B9 (a:=0) (b:=cy))) rfl (AK rfl) (AG (v:=(Value.bool (decide (0<cy)))) (AJ rfl rfl) rfl (OkL.nil (OkQ.mid (sS rfl (sS rfl (sS rfl (sS rfl (sS rfl (sS rfl (sS rfl (sS rfl (sS rfl (sS rfl (sS rfl (sS (by first|rfl|(rw [hg1];rfl)|rw [hg1]) (sS (by first|rfl|(rw [hg1];rfl)|rw [hg1]) (sN)))))))))))))) (List.Sublist.refl _)))))
  refine OkL.nil (OkQ.subF (sL [0,1,4,5,6,7,8,29] rfl) (OkQ.then_ ?_))
  refine OkC.cond rfl (λhc1=>?_) (λhc1=>?_)
  ·simp only [Bool.and_eq_true,Bool.or_eq_true,Bool.and_eq_false_iff,Bool.or_eq_false_iff,Bool.not_eq_true',Bool.not_eq_false',decide_eq_true_eq,decide_eq_false_iff_not] at hc1
   refine OkC.skip (q1 (OkC.block (OkC.seq (CV [(0,true),(1,true),(2,true),(3,true),(4,true),(5,true),(6,true),(7,true),(8,true),(9,true),(10,true),(11,true),(15,true),(12,false),(13,true),(14,true),(16,true),(17,true)] sr (BN rfl (BN rfl (BN rfl (Ag rfl (AY (c:=((i+k:Nat):Int)) rfl rfl (AT (a:=i) (b:=k) (by omega))) (Ag (v:=(pP (pB (some ⟨b1,0,none⟩)) (pO (some ⟨b1,0,none⟩)+(i+k)*1))) rfl (AI (j:=i+k) rfl rfl ho_b1.row Tryz.underlying79 Tryz.sizeOf3 rfl (by omega)) (Ag rfl (Di (v:=(vN (es.getD (i+k) 0))) (i:=0) rfl rfl ho_b1 (by simp [B3];omega) (ho_b1.row.ne (by omega)) BH (DD (ds:=es) (j:=i+k) (by omega))) (BN rfl ?_)))))))))))
   refine BN rfl (Ag (v:=(pP (pB a.p) (pO a.p+i*1))) rfl (AI (j:=i) rfl rfl a.ok Tryz.underlying79 Tryz.sizeOf3 rfl (by omega)) (Ag rfl (AQ (v:=(vN ((dg a.x).getD i 0))) (i:=1) rfl rfl (a.ok.ne (by omega)) BH (DD (ds:=dg a.x) (j:=i) (by omega))) (BN rfl (BN rfl (BN rfl (OkE.imp rfl ?_))))))
   have hz1:=Fl b.x k
   refine Cq Tryz.call212 (λw hw=>LR b k (by omega) w (hw.holds (i:=2) rfl)) rfl (OkE.back sr (Ag rfl (Cr (c:=((((dg a.x).getD i 0)*((dg b.x).getD k 0):Nat):Int)) rfl rfl (DN (a:=(dg a.x).getD i 0) (b:=(dg b.x).getD k 0) (by omega))) (Ag rfl (AY (c:=(((es.getD (i+k) 0)+(((dg a.x).getD i 0)*((dg b.x).getD k 0)):Nat):Int)) rfl rfl (AT (a:=es.getD (i+k) 0) (b:=((dg a.x).getD i 0)*((dg b.x).getD k 0)) (by omega))) (Ag rfl (AY (c:=((((es.getD (i+k) 0)+(((dg a.x).getD i 0)*((dg b.x).getD k 0)))+cy:Nat):Int)) rfl rfl (AT (a:=(es.getD (i+k) 0)+(((dg a.x).getD i 0)*((dg b.x).getD k 0))) (b:=cy) (by omega))) (pS' rfl (OkE.nil (OkQ.subF (sL [0,1,4,5,6,7,8,9] rfl) (q2 (AO rfl (AO rfl (AO rfl ?_)))))))))))
   refine AG (AY (c:=((i+k:Nat):Int)) rfl rfl (AT (a:=i) (b:=k) (by omega))) rfl (AO rfl (AG (De (c:=(((((es.getD (i+k) 0)+(((dg a.x).getD i 0)*((dg b.x).getD k 0)))+cy)%10000:Nat):Int)) rfl rfl (by omega) (Nu (a:=((es.getD (i+k) 0)+(((dg a.x).getD i 0)*((dg b.x).getD k 0)))+cy) (b:=10000))) rfl (AG (v:=(pP (pB (some ⟨b1,0,none⟩)) (pO (some ⟨b1,0,none⟩)+(i+k)*1))) (AI (j:=i+k) rfl rfl ho_b1.row Tryz.underlying79 Tryz.sizeOf3 rfl (by omega)) rfl (OkL.storeRow0 (j:=i+k) (v:=(vN ((((es.getD (i+k) 0)+(((dg a.x).getD i 0)*((dg b.x).getD k 0)))+cy)%10000))) rfl rfl ho_b1 (by simp [B3];omega) (by omega) rfl Tryz.sizeOf3 rfl (Oy _ _ _) (OkL.nil (OkQ.subF (sL [0,1,4,5,6,7,8,9] rfl) (OkQ.then_ (OkC.region (AO rfl (AG (EP (c:=(((((es.getD (i+k) 0)+(((dg a.x).getD i 0)*((dg b.x).getD k 0)))+cy)/10000:Nat):Int)) rfl rfl (by omega) (Ed (a:=((es.getD (i+k) 0)+(((dg a.x).getD i 0)*((dg b.x).getD k 0)))+cy) (b:=10000) (by omega))) rfl (asg' rfl ?_)))))))))))
   refine OkL.nil (OkQ.subF (sL [0,1,4,5,6,7,8,9] rfl) (OkQ.in_normal (OkQ.then_ (OkC.region (AO rfl (AG (AY (c:=((k+1:Nat):Int)) rfl rfl (AT (a:=k) (b:=1) (by omega))) rfl (asg' rfl (OkL.nil (OkQ.subF (sL [0,1,4,5,6,7,8,9] rfl) ?_)))))))))
   have hnx:k+1<=(dg b.x).length\/k+1=(dg b.x).length+1/\(es.getD (i+k) 0+(dg a.x).getD i 0*(dg b.x).getD k 0+cy)/10000=0:=by
            by_cases hkb:k<(dg b.x).length
            ·exact .inl (by omega)
            ·obtain rfl:k=(dg b.x).length:=by omega
             refine .inr ⟨rfl,?_⟩
             rw [CZ (by omega),CF] at hve
             have h9:=Tn (hV:=Uq a.x b.x i hv) hve
             rw [DK (show ¬(dg b.x).length<(dg b.x).length by omega),Nat.mul_zero,Nat.add_zero]
             omega
   exact OkQ.round3 ((((es.getD (i+k) 0)+(((dg a.x).getD i 0)*((dg b.x).getD k 0)))+cy)/10000) (k+1) (es.set (i+k) ((es.getD (i+k) 0+(dg a.x).getD i 0*(dg b.x).getD k 0+cy)%10000)) (⟨Ou hee (by omega),by simpa using hke,by omega,hnx,by rw [Bm];exact OW (by omega) hve rfl⟩) (by omega) (sF rfl) sr
  ·simp only [Bool.and_eq_true,Bool.or_eq_true,Bool.and_eq_false_iff,Bool.or_eq_false_iff,Bool.not_eq_true',Bool.not_eq_false',decide_eq_true_eq,decide_eq_false_iff_not] at hc1
   have hve2:val10 es=val10 ((dg a.x).take (i+1))*b.x:=by
        rw [show cy=0 by omega,CZ (by omega),CF,hv,Nat.mul_zero,Nat.add_zero] at hve
        rw [hve,Bm,Nat.add_mul]
   exact OkC.exit (OkQ.then_exit (OkQ.round3_exit (OkQ.in_exit (OkQ.in_normal (OkQ.then_ (OkC.region (AO rfl (AG (AY (c:=((i+1:Nat):Int)) rfl rfl (AT (a:=i) (b:=1) (by omega))) rfl (asg' rfl (OkL.nil (OkQ.subF (sL [0,1,4,5,6,7,8] rfl) (OkQ.round2 (i+1) es (⟨hee,hke,by omega,hve2⟩) (by omega) (sF rfl) sr))))))))))))
 ·replace hc0:=of_decide_eq_false hc0
  have hfin:val10 ds=a.x*b.x:=by rw [hv,CZ (by omega),CF]
  exact OkC.exit (OkQ.then_exit (OkQ.round2_exit (OkQ.in_exit (q2 (AO rfl (Cq (args:=[(Value.slice (some ⟨b1,0,none⟩) (((dg a.x).length)+((dg b.x).length)) (((dg a.x).length)+((dg b.x).length)))]) (v:=(Value.slice (some ⟨b1,0,none⟩) ((dg (val10 ds)).length) (((dg a.x).length)+((dg b.x).length)))) Tryz.call213 (λw hw=>(by have h9:=F8 (some ⟨b1,0,none⟩) (((dg a.x).length)+((dg b.x).length)) ds hdd (by rw [<-hk];exact ho_b1.row) (by omega) w (I0 (hw.holds (i:=0) rfl) ho_b1 hk);rw [<-hk] at h9;exact h9)) rfl (asg' rfl (OkL.nil (OkQ.subF (sL [0,1,4,5,6] rfl) (OkQ.then_ (OkC.ret (ret_one rfl (rd_tmp (v:=(Value.slice (some ⟨b1,0,none⟩) ((dg (val10 ds)).length) (((dg a.x).length)+((dg b.x).length)))) rfl) (λw hw=>TV hw (i:=0) rfl ho_b1 hk (by rw [<-hfin];exact E9 hdd) (by rw [hfin]))))))))))))))
end
section
set_option maxRecDepth 100000
theorem VU {a b:Nat} (h:b<a):0<Cp a b:=by unfold Cp;rw [if_neg (by omega),if_neg (by omega)];omega
theorem RH {a b:Nat} (h:¬Cp a b<=0):b<a:=by
 unfold Cp at h
 split at h
 ·omega
 ·split at h<;>omega
theorem PU (a b:NV) (hb0:0<b.x) (hla:(dg a.x).length<=274877906944) (hlb:(dg b.x).length<=274877906944) (w:World) (ha:Holds w (nA a)) (hb:Holds w (nA b)):Calls Tryz.prog 209 #[(nV a),(nV b)] w (Iu w [] [a.p.map (·.block)] (a.x/b.x) (a.x%b.x)):=by
 obtain ⟨k,hk⟩:∃k,k=(dg b.x).length-3:=⟨_,rfl⟩
 obtain ⟨tp,htp⟩:∃tp,tp=b.x/10000^k:=⟨_,rfl⟩
 have htb:=Ul b.x
 have htp1:=Ns hb0
 rw [<-hk] at htb htp1
 rw [<-htp] at htp1
 have htb2:=htb
 rw [<-htp] at htb2
 have hlb1:=(Jv hb0).2
 refine Aa (args:=[(nV a),(nV b)]) (L:=[nA a,nA b]) Tryz.func209 rfl rfl (AK rfl) (Bs rfl ha (Bs rfl hb (Al))) (OkC.subF (sL [0,1] rfl) (q4 (asg' rfl (asg' rfl (OkL.nil (q1 (q4 (AO rfl (AO rfl (Cq Tryz.call211 (λw hw=>La a b (by first|omega|(dsimp only;omega)) (by first|omega|(dsimp only;omega)) w (hw.holds (i:=0) rfl) (hw.holds (i:=1) rfl)) rfl (AG (Af (c:=(decide ((Cp a.x b.x)<(0:Int)))) rfl rfl rfl) rfl ?_)))))))))))
 refine OkL.nil (OkQ.subF (sL [0,1,4,5,18] rfl) (OkQ.then_ ?_))
 refine OkC.cond rfl (λhc0=>?_) (λhc0=>?_)
 ·replace hc0:=of_decide_eq_true hc0
  rw [Ej] at hc0
  exact q4 (AO rfl (asg' rfl (asg' rfl (OkL.nil (OkQ.subF (sL [0,1,4,5] rfl) (OkQ.then_ (OkC.ret (OkQ.then_ret (C0 rfl (rd_tmp (v:=(Value.slice none 0 0)) rfl) (rd_tmp (v:=(nV a)) rfl) (λw hw=>(by rw [Nat.mod_eq_of_lt hc0];exact WH hw (Nat.div_eq_of_lt hc0) (k:=0) rfl)))))))))))
 ·replace hc0:=of_decide_eq_false hc0
  rw [Ej] at hc0
  have hlab:=G8 (Nat.le_of_not_lt hc0)
  obtain ⟨m,hm1⟩:∃m,m=(dg a.x).length-(dg b.x).length+1:=⟨_,rfl⟩
  have hm:m+(dg b.x).length=(dg a.x).length+1:=by omega
  refine OkC.skip (q2 (AO rfl (AG (v:=(vN ((dg b.x).length))) (AD rfl Tryz.underlying79) rfl (AG (BJ (c:=((((dg b.x).length:Nat):Int)-3)) rfl rfl (BD (by omega) (by omega))) rfl (AG (DH (c:=((k:Nat):Int)) rfl rfl (by split<;>omega)) rfl (asg' rfl (q3 (sL [0,1,4,5,6] rfl) (AO rfl (AO rfl (Cq (args:=[(nV b),(vN k)]) (v:=(vN tp)) Tryz.call245 (λw hw=>(by rw [htp];exact MW b k (by omega) (by first|omega|(dsimp only;omega)) (by first|omega|(dsimp only;omega)) w (hw.holds (i:=1) rfl))) rfl (asg' rfl ?_)))))))))))
  refine q3 (sL [0,1,4,5,6,7] rfl) (AO rfl (AG (v:=(vN ((dg a.x).length))) (AD rfl Tryz.underlying79) rfl (AO rfl (AG (v:=(vN ((dg b.x).length))) (AD rfl Tryz.underlying79) rfl (AG (BJ (c:=(((m:Nat):Int)-1)) rfl rfl (by rw [BD (by omega) (by omega)];omega)) rfl (asg' rfl (q3 (sL [0,1,4,5,6,7,8] rfl) (AO rfl (AG (AY (c:=((m:Nat):Int)) rfl rfl (by rw [BD (by omega) (by omega)];omega)) rfl (OkL.makeDig (m:=m) X5 rfl rfl (by omega) rfl rfl λb1 ho_b1=>asg' rfl ?_))))))))))
  refine q3 (sL [0,1,4,5,6,7,8,9] rfl) (OkL.openV (V:=λb2=>(Value.slice (some ⟨b2,0,none⟩) 0 0)) (T:=3) (cs:=[]) (AP rfl) (GL Tryz.underlying79 Tryz.sizeOf3) rfl (AK rfl) λb2=>OkL.asRow0 (z:=1) 0 rfl (by omega) λho_b2=>AO rfl (AO rfl (AG (AY (c:=((m:Nat):Int)) rfl rfl (by rw [BD (by omega) (by omega)];omega)) rfl (AG (v:=(Value.slice (XJ a.p m a.c 1) ((dg a.x).length-m) (a.c-m))) (Mt (i:=m) rfl rfl Tryz.underlying79 Tryz.sizeOf3 (by omega) a.ok.le) rfl (OkL.appendS0 (cs2:=dgL (([])++(((dg a.x)).drop m))) (news:=dgL (((dg a.x)).drop m)) Sx rfl ho_b2 rfl rfl (WN (k:=2) rfl a.ok (by omega)) (by simp [B3]) (O_ _) (HL (by omega)) (by omega) (by rw [EQ];rfl) rfl λp_1 c_1 ho_1=>OkL.frozenD 0 (X:=a.x/10000^m) rfl ho_1 (by simp) (by rw [<-O4];exact (List.take_length).symm) rfl λhok0 hloc0=>OkL.retell (k:=40) (u:=(Value.slice p_1 ((dg (a.x/10000^m)).length) c_1)) rfl (by rw [show 0+((dg a.x).length-m)=(dg (a.x/10000^m)).length by rw [<-O4];simp]) (asg' rfl (q6 (sL [0,1,4,5,6,7,8,9,10] rfl) ?_)))))))
  refine OkC.block ?_
  refine OkC.lp5 (tg λ(j:Nat) (qs:List Nat) (R:Nat) (p:Option Addr) (c:Nat)=>j<=m/\IB qs/\m=qs.length/\val10 qs=10000^j*(a.x/10000^j/b.x)/\R=a.x/10000^j%b.x/\Ak p (dg R).length c/\DU w [] p) (tg λ(j:Nat) (qs:List Nat) (R:Nat) (p:Option Addr) (c:Nat)=>[(0,(nV a)),(1,(nV b)),(4,(Value.slice none 0 0)),(5,(Value.slice none 0 0)),(6,(vN k)),(7,(vN tp)),(9,(Value.slice (some ⟨b1,0,none⟩) m m)),(8,(vI (((j:Nat):Int)-1))),(10,(Value.slice p ((dg R).length) c))]) (tg λ(j:Nat) (qs:List Nat) (R:Nat) (p:Option Addr) (c:Nat)=>[AF p (dgL (dg R)),rowW (some ⟨b1,0,none⟩) 3 1 m m (dgL qs),nA a,nA b]) (tg λ(j:Nat) (qs:List Nat) (R:Nat) (p:Option Addr) (c:Nat)=>j) m (List.replicate m 0) (a.x/10000^m) p_1 c_1 (⟨Nat.le_refl _,Kt _,by simp,by rw [IC,Nat.div_eq_of_lt (M7 hb0 hm),Nat.mul_zero],(Nat.mod_eq_of_lt (M7 hb0 hm)).symm,hok0,hloc0⟩) (sF rfl) sr (λj qs R p c hJ=>?_)
  obtain ⟨hj,hdd,hk,hv,hR,hok,hloc⟩:=hJ
  refine OkC.seq (q4 (AO rfl (AG (B_ (c:=(decide ((0:Int)<=(((j:Nat):Int)-1)))) rfl rfl rfl) rfl (OkL.nil (OkQ.subF (sL [0,1,4,5,6,7,9,8,10,42] rfl) (OkQ.then_ ?_))))))
  refine OkC.cond rfl (λhc1=>?_) (λhc1=>?_)
  ·replace hc1:=of_decide_eq_true hc1
   have hj1:1<=j:=by omega
   obtain ⟨R1,hR1⟩:∃R1,R1=10000*R+(dg a.x).getD (j-1) 0:=⟨_,rfl⟩
   have hRb:R<b.x:=by rw [hR];exact Nat.mod_lt _ hb0
   have hd1:=Fl a.x (j-1)
   have hR1b:R1<10000*b.x:=by omega
   have hA:=Pk a.x (j-1)
   rw [Nat.sub_add_cancel hj1] at hA
   have hst:=Np hb0 hA hR hR1
   have hR1l:(dg R1).length<=(dg b.x).length+1:=by refine FR (Nat.lt_of_lt_of_le hR1b ?_);rw [Nat.pow_succ];have h8:=Ce (Dh b.x);rw [CF] at h8;omega
   have hRl:=G8 (Nat.le_of_lt hRb)
   have hd9:IB ([(dg a.x).getD (j-1) 0]++dg R):=λe he=>(List.mem_append.1 he).elim (λh=>by rw [List.mem_singleton.1 h];omega) (λh=>Dh R e h)
   have hv9:val10 ([(dg a.x).getD (j-1) 0]++dg R)=R1:=by rw [List.singleton_append,val10,CF];omega
   have hk9:1+(dg R).length=([(dg a.x).getD (j-1) 0]++dg R).length:=by simp [Nat.add_comm]
   obtain ⟨f,hf⟩:∃f,f=R1/10000^k:=⟨_,rfl⟩
   have hfb:=P9 hR1b htb
   rw [<-hf] at hfb
   obtain ⟨q,hq⟩:∃q,q=R1/b.x:=⟨_,rfl⟩
   have hq1:q<=9999:=by have:=(Nat.div_lt_iff_lt_mul hb0).2 hR1b;omega
   have hqR:b.x*q<=R1:=by rw [hq];exact Nat.mul_div_le _ _
   have hlow:f/(tp+1)<=q:=by rw [hf,htp,hq];exact Ur hb0
   have hhigh:q<=f/tp:=by rw [hf,htp,hq];exact SF (by rw [<-htp];exact htp1)
   have hf2:f/(tp+1)<=f:=Nat.div_le_self _ _
   refine OkC.retell (k:=8) (u:=(vN (j-1))) rfl (by show Value.int _ _=Value.int _ _;congr 1;omega) (OkC.skip (q1 (OkC.block (q4 (AO rfl (AO rfl (AG (v:=(pP (pB a.p) (pO a.p+(j-1)*1))) (AI (j:=j-1) rfl rfl a.ok Tryz.underlying79 Tryz.sizeOf3 rfl (by omega)) rfl (AG (AQ (v:=(vN ((dg a.x).getD (j-1) 0))) (i:=2) rfl rfl (a.ok.ne (by omega)) BH (DD (ds:=dg a.x) (j:=j-1) (by omega))) rfl (OkL.openV (V:=λb3=>(Value.slice (some ⟨b3,0,none⟩) 1 1)) (T:=3) (cs:=[(vN ((dg a.x).getD (j-1) 0))]) (AP rfl) (Av (cs:=[(vN ((dg a.x).getD (j-1) 0))]) (pv:=[(0,(vN ((dg a.x).getD (j-1) 0)))]) Tryz.underlying79 Tryz.sizeOf3 Tryz.zeroValue3 (by decide) (by decide) rfl (by kernel_rfl)) rfl (AK rfl) λb3=>OkL.asRow0 (z:=1) 1 rfl (by omega) λho_b3=>AO rfl ?_)))))))))
   refine OkL.appendS0 (cs2:=dgL (([(dg a.x).getD (j-1) 0])++(dg R))) (news:=dgL (dg R)) Sx rfl ho_b3 rfl rfl (Lh (k:=1) rfl hok) (by simp [B3]) (O_ _) (HL (by omega)) (by omega) (by rw [EQ];rfl) rfl λp_2 c_2 ho_2=>Cq (args:=[(Value.slice p_2 (1+((dg R).length)) c_2)]) (v:=(Value.slice p_2 ((dg R1).length) c_2)) Tryz.call213 (λw hw=>(by have h9:=F8 p_2 c_2 (([(dg a.x).getD (j-1) 0])++(dg R)) hd9 (by rw [<-hk9];exact ho_2.row) (by simp;omega) w (I0 (hw.holds (i:=0) rfl) ho_2 hk9);rw [hv9,<-hk9] at h9;exact h9)) rfl (OkL.frozenD 0 (X:=R1) rfl ho_2 hk9 (by rw [<-hv9];exact E9 hd9) rfl λhok1 hloc1=>asg' rfl (q3 (sL [0,1,4,5,6,7,9,8,10] rfl) (AO rfl (AO rfl (Cq (args:=[(Value.slice p_2 ((dg R1).length) c_2),(vN k)]) (v:=(vN f)) Tryz.call245 (λw hw=>(by rw [hf];exact MW (NV.mk p_2 c_2 R1 hok1) k (by omega) (by first|omega|(dsimp only;omega)) (by first|omega|(dsimp only;omega)) w (hw.holds (i:=0) rfl))) rfl (asg' rfl (q6 (sL [0,1,4,5,6,7,9,8,10,11] rfl) (CV [(0,true),(1,true),(2,true),(3,true),(4,true),(5,true),(6,true),(7,true),(8,true),(9,true)] sr (BN rfl ?_)))))))))
   refine BN rfl (Ag rfl (AY (c:=((tp+1:Nat):Int)) rfl rfl (AT (a:=tp) (b:=1) (by omega))) (Ag rfl (EP (c:=((f/(tp+1):Nat):Int)) rfl rfl (by omega) (Ed (a:=f) (b:=tp+1) (by omega))) (BN rfl (BN rfl (Ag rfl (EP (c:=((f/tp:Nat):Int)) rfl rfl (by omega) (Ed (a:=f) (b:=tp) (by omega))) (Ag rfl (DI (c:=((min (f/tp) 9999:Nat):Int)) rfl rfl (by split<;>omega)) (pS' rfl (pS' rfl (OkE.nil (OkQ.subF (sL [0,1,4,5,6,7,9,8,10,12,13] rfl) (q1 ?_)))))))))))
   refine OkC.block ?_
   refine OkC.lp2 (tg λ(lo:Nat) (hi:Nat)=>lo<=q/\q<=hi/\hi<=9999) (tg λ(lo:Nat) (hi:Nat)=>[(0,(nV a)),(1,(nV b)),(4,(Value.slice none 0 0)),(5,(Value.slice none 0 0)),(6,(vN k)),(7,(vN tp)),(9,(Value.slice (some ⟨b1,0,none⟩) m m)),(8,(vN (j-1))),(10,(Value.slice p_2 ((dg R1).length) c_2)),(12,(vN lo)),(13,(vN hi))]) (tg λ(lo:Nat) (hi:Nat)=>[AF p_2 (dgL (dg R1)),AF p (dgL (dg R)),rowW (some ⟨b1,0,none⟩) 3 1 m m (dgL qs),nA a,nA b]) (tg λ(lo:Nat) (hi:Nat)=>hi-lo) (f/(tp+1)) (min (f/tp) 9999) (⟨hlow,by omega,by omega⟩) (sF rfl) sr (λlo hi hJ=>?_)
   obtain ⟨hlo,hhi,hh9⟩:=hJ
   refine OkC.seq (q4 (AO rfl (AO rfl (AG (Af (c:=(decide (lo<hi))) rfl rfl (B9 (a:=lo) (b:=hi))) rfl (OkL.nil (OkQ.subF (sL [0,1,4,5,6,7,9,8,10,12,13,66] rfl) (OkQ.then_ ?_)))))))
   refine OkC.cond rfl (λhc2=>?_) (λhc2=>?_)
   ·replace hc2:=of_decide_eq_true hc2
    refine OkC.skip (OkQ.then_ (OkC.block (q4 (AO rfl (AO rfl (AG (AY (c:=((lo+hi:Nat):Int)) rfl rfl (AT (a:=lo) (b:=hi) (by omega))) rfl (AG (AY (c:=(((lo+hi)+1:Nat):Int)) rfl rfl (AT (a:=lo+hi) (b:=1) (by omega))) rfl (AG (EP (c:=((((lo+hi)+1)/2:Nat):Int)) rfl rfl (by omega) (Ed (a:=(lo+hi)+1) (b:=2) (by omega))) rfl (asg' rfl (q3 (sL [0,1,4,5,6,7,9,8,10,12,13,14] rfl) (AO rfl ?_)))))))))))
    refine AO rfl (AG (Ar (c:=((((lo+hi)+1)/2:Nat):Int)) rfl Tryz.underlying3 Tryz.underlying69 (BG (by omega))) rfl (OkL.callN (args:=[(vK .u64 (((lo+hi)+1)/2))]) Tryz.call207 (λw hw=>Ng (((lo+hi)+1)/2) (by omega) w) Oj rfl rfl rfl λv1 hv1 lv1=>?_))
    have hlv1:(dg v1.x).length<=1:=FR (by omega)
    refine OkL.callN (args:=[(nV b),(nV v1)]) Tryz.call162 (λw hw=>Lk b v1 (by first|omega|(dsimp only;omega)) (by first|omega|(dsimp only;omega)) w (hw.holds (i:=5) rfl) (hw.holds (i:=0) rfl)) Oj rfl rfl rfl λv2 hv2 lv2=>?_
    have hlv2:(dg v2.x).length<=(dg b.x).length+1:=by refine FR ?_;rw [hv2,Nat.pow_succ];have h8:=Ce (Dh b.x);rw [CF] at h8;exact Nat.mul_lt_mul_of_lt_of_le h8 (by omega) (by omega)
    refine AO rfl (Cq Tryz.call211 (λw hw=>La v2 (NV.mk p_2 c_2 R1 hok1) (by first|omega|(dsimp only;omega)) (by first|omega|(dsimp only;omega)) w (hw.holds (i:=0) rfl) (hw.holds (i:=2) rfl)) rfl (AG (FP (c:=(decide ((Cp v2.x R1)<=(0:Int)))) rfl rfl rfl) rfl (OkL.nil (OkQ.subF (sL [0,1,4,5,6,7,9,8,10,12,13,14,79] rfl) (OkQ.then_ ?_)))))
    refine OkC.cond rfl (λhc3=>?_) (λhc3=>?_)
    ·replace hc3:=of_decide_eq_true hc3
     have hmq:(lo+hi+1)/2<=q:=by rw [hq];refine (Nat.le_div_iff_mul_le hb0).2 ?_;rw [Nat.mul_comm,<-hv1,<-hv2];exact Nat.le_of_not_lt λh=>by have h8:=VU h;omega
     exact OkC.region (AO rfl (asg' rfl (OkL.nil (OkQ.subF (sL [0,1,4,5,6,7,9,8,10,12,13,14] rfl) (OkQ.in_normal (OkQ.round2 (((lo+hi)+1)/2) hi (⟨by omega,by omega,by omega⟩) (by omega) (sF rfl) (sl (sl sr))))))))
    ·replace hc3:=of_decide_eq_false hc3
     have hmq:q<(lo+hi+1)/2:=by rw [hq];refine (Nat.div_lt_iff_lt_mul hb0).2 ?_;rw [Nat.mul_comm,<-hv1,<-hv2];exact RH (by omega)
     exact OkC.region (AO rfl (AG (BJ (c:=(((((lo+hi)+1)/2)-1:Nat):Int)) rfl rfl (Bt (a:=((lo+hi)+1)/2) (b:=1) (by omega) (by omega))) rfl (asg' rfl (OkL.nil (OkQ.subF (sL [0,1,4,5,6,7,9,8,10,12,13,14] rfl) (OkQ.in_normal (OkQ.round2 lo ((((lo+hi)+1)/2)-1) (⟨by omega,by omega,by omega⟩) (by omega) (sF rfl) (sl (sl sr)))))))))
   ·replace hc2:=of_decide_eq_false hc2
    have hlq:lo=q:=by omega
    refine OkC.exit (OkQ.then_exit (OkQ.round2_exit (OkQ.in_exit (q2 (AO rfl (AO rfl (AO rfl (AG (v:=(pP (pB (some ⟨b1,0,none⟩)) (pO (some ⟨b1,0,none⟩)+(j-1)*1))) (AI (j:=j-1) rfl rfl ho_b1.row Tryz.underlying79 Tryz.sizeOf3 rfl (by omega)) rfl (OkL.storeRow2 (j:=j-1) (v:=(vN lo)) rfl rfl ho_b1 (by simp [B3];omega) (by omega) rfl Tryz.sizeOf3 rfl (Oy _ _ _) (OkL.nil (OkQ.subF (sL [0,1,4,5,6,7,9,8,10,12,13] rfl) ?_)))))))))))
    refine OkQ.then_ (OkC.region (AO rfl (AO rfl (AO rfl (AG (Ar (c:=((lo:Nat):Int)) rfl Tryz.underlying3 Tryz.underlying69 (BG (by omega))) rfl (OkL.callN (args:=[(vK .u64 lo)]) Tryz.call207 (λw hw=>Ng lo (by omega) w) Oj rfl rfl rfl λv3 hv3 lv3=>?_))))))
    have hlv3:(dg v3.x).length<=1:=FR (by omega)
    refine OkL.callN (args:=[(nV b),(nV v3)]) Tryz.call162 (λw hw=>Lk b v3 (by first|omega|(dsimp only;omega)) (by first|omega|(dsimp only;omega)) w (hw.holds (i:=5) rfl) (hw.holds (i:=0) rfl)) Oj rfl rfl rfl λv4 hv4 lv4=>?_
    have hlv4:(dg v4.x).length<=(dg b.x).length+1:=by refine FR ?_;rw [hv4,Nat.pow_succ];have h8:=Ce (Dh b.x);rw [CF] at h8;exact Nat.mul_lt_mul_of_lt_of_le h8 (by omega) (by omega)
    have hv4R:v4.x<=R1:=by rw [hv4,hv3,hlq];exact hqR
    exact OkL.callN (args:=[(Value.slice p_2 ((dg R1).length) c_2),(nV v4)]) Tryz.call210 (λw hw=>Po (NV.mk p_2 c_2 R1 hok1) v4 hv4R (by first|omega|(dsimp only;omega)) w (hw.holds (i:=2) rfl) (hw.holds (i:=0) rfl)) Oj rfl rfl rfl λv5 hv5 lv5=>asg' rfl (OkL.nil (OkQ.subF (sL [0,1,4,5,6,7,9,8,10,12,13] rfl) (OkQ.in_normal (OkQ.then_ (OkC.region (AO rfl (AG (BJ (c:=(((j-1:Nat):Int)-1)) rfl rfl (BD (by omega) (by omega))) rfl (asg' rfl (OkL.nil (OkQ.subF (sL [0,1,4,5,6,7,9,8,10,12,13] rfl) (OkQ.round5 (j-1) (qs.set (j-1) lo) v5.x v5.p v5.c (⟨by omega,Ou hdd (by omega),by simpa using hk,QK hdd hk hj1 hj hv (by rw [hlq,hq];exact hst.1),by rw [hv5,hv4,hv3,hlq,hst.2,hq];exact Nat.sub_eq_of_eq_add (Nat.mod_add_div _ _).symm,v5.ok,lv5⟩) (by omega) (sF rfl) (sk (sl (sl (sl (sl sr))))))))))))))))
  ·replace hc1:=of_decide_eq_false hc1
   obtain rfl:j=0:=by omega
   have hfin:val10 qs=a.x/b.x:=by rw [hv];simp
   have hfin2:R=a.x%b.x:=by rw [hR];simp
   refine OkC.exit (OkQ.then_exit (OkQ.round5_exit (OkQ.in_exit (q2 (AO rfl (Cq (args:=[(Value.slice (some ⟨b1,0,none⟩) m m)]) (v:=(Value.slice (some ⟨b1,0,none⟩) ((dg (val10 qs)).length) m)) Tryz.call213 (λw hw=>(by have h9:=F8 (some ⟨b1,0,none⟩) m qs hdd (by rw [<-hk];exact ho_b1.row) (by omega) w (I0 (hw.holds (i:=1) rfl) ho_b1 hk);rw [<-hk] at h9;exact h9)) rfl (AO rfl (asg' rfl (asg' rfl (OkL.nil (OkQ.subF (sL [0,1,4,5,6,7,9,8,10] rfl) ?_)))))))))))
   exact OkQ.then_ (OkC.ret (C0 rfl (rd_tmp (v:=(Value.slice (some ⟨b1,0,none⟩) ((dg (val10 qs)).length) m)) rfl) (rd_tmp (v:=(Value.slice p ((dg R).length) c)) rfl) (λw hw=>Xg hw (i:=1) (k:=0) rfl ho_b1 hk (by rw [<-hfin];exact E9 hdd) (by rw [hfin]) (by rw [<-hfin2];rfl) (by rw [<-hfin2];exact hok) hloc (by rw [<-hfin2]))))
theorem UE (a b:NV) (hla:(dg a.x).length<=274877906944) (hlb:(dg b.x).length<=274877906944) (w:World) (ha:Holds w (nA a)) (hb:Holds w (nA b)):Calls Tryz.prog 208 #[(nV a),(nV b)] w (F7 w [a.p.map (·.block),b.p.map (·.block)] (Nat.gcd a.x b.x)):=by
 refine Aa (args:=[(nV a),(nV b)]) (L:=[nA b,nA a]) Tryz.func208 rfl rfl (AK rfl) (Bs rfl hb (Bs rfl ha (Al))) (OkC.subF (sL [0,1] rfl) (q4 (asg' rfl (OkL.nil (q1 (OkC.block ?_))))))
 refine OkC.lp2 (tg λ(u:NV) (v:NV)=>Nat.gcd u.x v.x=Nat.gcd a.x b.x/\(dg u.x).length<=274877906944/\(dg v.x).length<=274877906944/\DU w [a.p.map (·.block),b.p.map (·.block)] u.p/\DU w [a.p.map (·.block),b.p.map (·.block)] v.p) (tg λ(u:NV) (v:NV)=>[(4,(Value.slice none 0 0)),(0,(nV u)),(1,(nV v))]) (tg λ(u:NV) (v:NV)=>[nA v,nA u]) (tg λ(u:NV) (v:NV)=>v.x) a b (⟨rfl,hla,hlb,λs e=>.inr (by rw [<-e];exact List.mem_cons_self),λs e=>.inr (by rw [<-e];exact List.mem_cons_of_mem _ List.mem_cons_self)⟩) (sF rfl) sr (λu v hJ=>?_)
 obtain ⟨hg,hlu,hlv,hu,hv⟩:=hJ
 refine OkC.seq (q4 (AO rfl (AG (v:=(vN ((dg v.x).length))) (AD rfl Tryz.underlying79) rfl (AG (B6 (c:=(decide (0<((dg v.x).length)))) rfl rfl (B9 (a:=0) (b:=(dg v.x).length))) rfl (OkL.nil (OkQ.subF (sL [4,0,1,9] rfl) (OkQ.then_ ?_)))))))
 refine OkC.cond rfl (λhc0=>?_) (λhc0=>?_)
 ·replace hc0:=of_decide_eq_true hc0
  have hv0:0<v.x:=by
     rcases Nat.eq_zero_or_pos v.x with h|h
     ·rw [h] at hc0;exact absurd hc0 (by decide)
     ·exact h
  refine OkC.skip (OkQ.then_ (OkC.block (q4 (AO rfl (AO rfl (OkL.callNN (args:=[(nV u),(nV v)]) Tryz.call209 (λw hw=>PU u v hv0 hlu hlv w (hw.holds (i:=1) rfl) (hw.holds (i:=0) rfl)) Oj (Ym (y:=nA u) 1 rfl rfl Oj) rfl rfl rfl λq1 r1 hq1 hr1 lq1 lr1=>AO rfl (AG (AV (v:=(nV q1)) rfl rfl) rfl (AG (AV (v:=(nV r1)) rfl rfl) rfl (asg' rfl (asg' rfl ?_))))))))))
  exact q3 (sL [4,0,1,6] rfl) (AO rfl (asg' rfl (OkL.nil (OkQ.subF (sL [4,0,1,6] rfl) (OkQ.then_ (OkC.region (AO rfl (asg' rfl (OkL.nil (OkQ.subF (sL [4,0,1] rfl) (OkQ.in_normal (OkQ.round2 v r1 (⟨by rw [<-hg,hr1,Nat.gcd_comm,<-Nat.gcd_rec,Nat.gcd_comm],hlv,Nat.le_trans (G8 (by rw [hr1];exact Nat.le_of_lt (Nat.mod_lt _ hv0))) hlv,hv,lr1.mono (λs hs c e=>hu c (by rw [List.mem_singleton.1 hs] at e;exact e))⟩) (by rw [hr1];exact Nat.mod_lt _ hv0) (sF rfl) (sl (sk (sk (sl sr))))))))))))))))
 ·replace hc0:=of_decide_eq_false hc0
  have hv0:v.x=0:=by
     rcases Nat.eq_zero_or_pos v.x with h|h
     ·exact h
     ·have:=(Jv h).2;omega
  rw [hv0,Nat.gcd_zero_right] at hg
  exact OkC.exit (OkQ.then_exit (OkQ.round2_exit (OkQ.in_exit (q2 (AO rfl (asg' rfl (OkL.nil (OkQ.subF (sL [4,0,1] rfl) (OkQ.then_ (OkC.ret (ret_one rfl (rd_tmp (v:=(nV u)) rfl) (λw hw=>⟨u,hg,rfl,hw.out,hw.holds (i:=1) rfl,hu⟩))))))))))))
end
end Go.Proofs.YtpolhpjiahbidaaGreatDoor
