import Derived.Lib.ItoaNum
import Derived.Laws.Runes
import Derived.Test.YtpgncndhhhllfaaGreatDoorPart06
import Derived.Test.YtpgncndhhhllfaaGreatDoorPart08
import Derived.Test.YtpgncndhhhllfaaGreatDoorPart21
namespace Go.Proofs.YtpgncndhhhllfaaGreatDoor
open Go Go.RowKit Go.Proofs.Tryz
set_option linter.unusedVariables false
set_option linter.unusedSimpArgs false
section
set_option maxRecDepth 100000
theorem XD:Ml Tryz.prog 71 3 (vN 0) 8:=⟨Tryz.underlying71,_,_,rfl,rfl,rfl,rfl,rfl⟩
theorem L8 (a:NV) (k:Nat) (hk:k<=1099511627776) (hla:(dg a.x).length<=1099511627776) (hv:a.x/10000^k<9223372036854775808) (w:World) (ha:Holds w (nA a)):Calls Tryz.prog 245 #[(nV a),(vN k)] w (Al w (vN (a.x/10000^k))):=by
 refine Aj (args:=[(nV a),(vN k)]) (L:=[nA a]) Tryz.func245 rfl rfl (AV rfl) (Bw rfl ha (Ax)) (AE.subF (sL [0,1] rfl) (q4 (asg' rfl (AD.nil (q2 ?_)))))
 refine asg' rfl (AD.nil (q1 (q4 (AQ rfl (AK (v:=(vN ((dg a.x).length))) (AF rfl Tryz.underlying71) rfl ?_)))))
 refine AK (BQ (c:=((((dg a.x).length:Nat):Int)-1)) rfl rfl (BS (by omega) (by omega))) rfl (asg' rfl (AD.nil (AC.subF (sL [0,1,4,5,6] rfl) (AC.then_ (AE.block ?_)))))
 refine AE.lp2 (tg λ(n:Nat) (j:Nat)=>j<=(dg a.x).length/\(k<=j\/j=(dg a.x).length)/\n=a.x/10000^j) (tg λ(n:Nat) (j:Nat)=>[(0,(nV a)),(1,(vN k)),(4,(vI 0)),(5,(vN n)),(6,(vI (((j:Nat):Int)-1)))]) (tg λ(n:Nat) (j:Nat)=>[nA a]) (tg λ(n:Nat) (j:Nat)=>j) 0 ((dg a.x).length) (⟨Nat.le_refl _,.inr rfl,(SF a.x).symm⟩) (sF rfl) sr (λn j hJ=>?_)
 obtain ⟨hm,hkj,hn⟩:=hJ
 refine AE.seq (q4 (AQ rfl (AQ rfl (AK (DH (c:=(decide (((k:Nat):Int)<=(((j:Nat):Int)-1)))) rfl rfl rfl) rfl (AD.nil ?_)))))
 refine AC.subF (sL [0,1,4,5,6,12] rfl) (AC.then_ ?_)
 refine AE.cond rfl (λhc0=>?_) (λhc0=>?_)
 ·replace hc0:=of_decide_eq_true hc0
  have hj1:1<=j:=by omega
  have hst:=O1 a.x (j-1)
  rw [Nat.sub_add_cancel hj1,<-hn] at hst
  have hle:=Ip a.x (show k<=j-1 by omega)
  refine AE.retell (k:=6) (u:=(vN (j-1))) rfl (by show Value.int _ _=Value.int _ _;congr 1;omega) (AE.skip (q1 (AE.block (AE.region (AQ rfl ?_)))))
  refine AK (DQ (c:=((10000*n:Nat):Int)) rfl rfl (Et (a:=10000) (b:=n) (by omega))) rfl (AQ rfl (AQ rfl (AK (v:=(pP (pB a.p) (pO a.p+(j-1)*1))) (AO (j:=j-1) rfl rfl a.ok Tryz.underlying71 Tryz.sizeOf3 rfl (by omega)) rfl (AK (Ah (v:=(vN ((dg a.x).getD (j-1) 0))) (i:=0) rfl rfl (a.ok.ne (by omega)) Bo (DC (ds:=dg a.x) (j:=j-1) (by omega))) rfl (AK (Ac (c:=(((10000*n)+((dg a.x).getD (j-1) 0):Nat):Int)) rfl rfl (Ae (a:=10000*n) (b:=(dg a.x).getD (j-1) 0) (by omega))) rfl ?_)))))
  refine asg' rfl (AD.nil (AC.subF (sL [0,1,4,5,6] rfl) (AC.in_normal (AC.then_ (AE.region ?_)))))
  exact AQ rfl (AK (BQ (c:=(((j-1:Nat):Int)-1)) rfl rfl (BS (by omega) (by omega))) rfl (asg' rfl (AD.nil (AC.subF (sL [0,1,4,5,6] rfl) (AC.round2 ((10000*n)+((dg a.x).getD (j-1) 0)) (j-1) (⟨by omega,by omega,by omega⟩) (by omega) (sF rfl) sr)))))
 ·replace hc0:=of_decide_eq_false hc0
  have hfin:n=a.x/10000^k:=MO hn hkj (by omega)
  refine AE.exit (AC.then_exit (AC.round2_exit (AC.in_exit (q2 (AQ rfl ?_)))))
  exact asg' rfl (AD.nil (AC.subF (sL [0,1,4,5,6] rfl) (AC.then_ (AE.ret (AJ rfl (AS (v:=(vN n)) rfl) (λw hw=>⟨by rw [hfin],hw.out⟩))))))
theorem Ke (a b:NV) (hla:(dg a.x).length<=549755813888) (hlb:(dg b.x).length<=549755813888) (w:World) (ha:Holds w (nA a)) (hb:Holds w (nA b)):Calls Tryz.prog 143 #[(nV a),(nV b)] w (F1 w [] (a.x*b.x)):=by
 refine Aj (args:=[(nV a),(nV b)]) (L:=[nA a,nA b]) Tryz.func143 rfl rfl (AV rfl) (Bw rfl ha (Bw rfl hb (Ax))) (AE.subF (sL [0,1] rfl) (q4 (asg' rfl (AD.nil (q2 ?_)))))
 refine AQ rfl (AK (v:=(vN ((dg a.x).length))) (AF rfl Tryz.underlying71) rfl (AQ rfl (AK (v:=(vN ((dg b.x).length))) (AF rfl Tryz.underlying71) rfl (AK (Ac (c:=((((dg a.x).length)+((dg b.x).length):Nat):Int)) rfl rfl (Ae (a:=(dg a.x).length) (b:=(dg b.x).length) (by omega))) rfl (AD.makeDig (m:=((dg a.x).length)+((dg b.x).length)) XD rfl rfl (by omega) rfl rfl λb1 ho_b1=>?_)))))
 refine asg' rfl (q6 (sL [0,1,4,5] rfl) (q4 (asg' rfl (AD.nil (AC.then_ ?_)))))
 refine AE.block ?_
 refine AE.lp2 (tg λ(i:Nat) (ds:List Nat)=>Hv ds/\(dg a.x).length+(dg b.x).length=ds.length/\i<=(dg a.x).length/\val10 ds=val10 ((dg a.x).take i)*b.x) (tg λ(i:Nat) (ds:List Nat)=>[(0,(nV a)),(1,(nV b)),(4,(Value.slice none 0 0)),(5,(Value.slice (some ⟨b1,0,none⟩) (((dg a.x).length)+((dg b.x).length)) (((dg a.x).length)+((dg b.x).length)))),(6,(vN i))]) (tg λ(i:Nat) (ds:List Nat)=>[rowW (some ⟨b1,0,none⟩) 3 1 ((dg a.x).length+(dg b.x).length) ((dg a.x).length+(dg b.x).length) (dgL ds),nA a,nA b]) (tg λ(i:Nat) (ds:List Nat)=>(dg a.x).length-i) 0 (List.replicate ((dg a.x).length+(dg b.x).length) 0) (⟨KF _,by simp,Nat.zero_le _,by rw [H1];simp [val10]⟩) (sF rfl) sr (λi ds hJ=>?_)
 obtain ⟨hdd,hk,hm,hv⟩:=hJ
 have ga:=FS a.x i
 refine AE.seq (q4 (AQ rfl (AQ rfl (AK (v:=(vN ((dg a.x).length))) (AF rfl Tryz.underlying71) rfl (AK (Ai (c:=(decide (i<((dg a.x).length)))) rfl rfl (CI (a:=i) (b:=(dg a.x).length))) rfl ?_)))))
 refine AD.nil (AC.subF (sL [0,1,4,5,6,19] rfl) (AC.then_ ?_))
 refine AE.cond rfl (λhc0=>?_) (λhc0=>?_)
 ·replace hc0:=of_decide_eq_true hc0
  refine AE.skip (q1 (AE.block (q4 (asg' rfl (AD.nil ?_)))))
  refine q2 (asg' rfl (AD.nil (AC.then_ (AE.block ?_))))
  refine AE.lp3 (tg λ(cy:Nat) (k:Nat) (es:List Nat)=>Hv es/\(dg a.x).length+(dg b.x).length=es.length/\cy<10000/\(k<=(dg b.x).length\/k=(dg b.x).length+1/\cy=0)/\val10 es+10000^(i+k)*cy=val10 ds+10000^i*(dg a.x).getD i 0*val10 ((dg b.x).take k)) (tg λ(cy:Nat) (k:Nat) (es:List Nat)=>[(0,(nV a)),(1,(nV b)),(4,(Value.slice none 0 0)),(5,(Value.slice (some ⟨b1,0,none⟩) (((dg a.x).length)+((dg b.x).length)) (((dg a.x).length)+((dg b.x).length)))),(6,(vN i)),(7,(vN cy)),(8,(vN k))]) (tg λ(cy:Nat) (k:Nat) (es:List Nat)=>[rowW (some ⟨b1,0,none⟩) 3 1 ((dg a.x).length+(dg b.x).length) ((dg a.x).length+(dg b.x).length) (dgL es),nA a,nA b]) (tg λ(cy:Nat) (k:Nat) (es:List Nat)=>(dg b.x).length+2-k) 0 0 ds (⟨hdd,hk,by omega,.inl (Nat.zero_le _),by simp [val10]⟩) (sF rfl) sr (λcy k es hJ=>?_)
  obtain ⟨hee,hke,hcy,hme,hve⟩:=hJ
  have gb:=FS b.x k
  have ge:=TX hee (i+k)
  have hbd:=P7 ge ga gb hcy
  have hab:(dg a.x).getD i 0*(dg b.x).getD k 0<=9999*9999:=Nat.mul_le_mul (by omega) (by omega)
  refine AE.seq (q4 (AQ rfl (AQ rfl (AK (v:=(vN ((dg b.x).length))) (AF rfl Tryz.underlying71) rfl (AK (Ai (c:=(decide (k<((dg b.x).length)))) rfl rfl (CI (a:=k) (b:=(dg b.x).length))) rfl ?_)))))
  refine AQ rfl ?_
  refine AD.mid (FM:=[(0,(nV a)),(1,(nV b)),(4,(Value.slice none 0 0)),(5,(Value.slice (some ⟨b1,0,none⟩) (((dg a.x).length)+((dg b.x).length)) (((dg a.x).length)+((dg b.x).length)))),(6,(vN i)),(7,(vN cy)),(8,(vN k)),(22,(vN k)),(23,(nV b)),(24,(vN ((dg b.x).length))),(25,(Value.bool (decide (k<((dg b.x).length))))),(26,(Value.bool (decide (k<((dg b.x).length))))),(29,(Value.bool ((decide (k<((dg b.x).length)))||(decide (0<cy)))))]) (LM:=[rowW (some ⟨b1,0,none⟩) 3 1 ((dg a.x).length+(dg b.x).length) ((dg a.x).length+(dg b.x).length) (dgL es),nA a,nA b]) 3 ?_ ?_
  ·rcases Bool.eq_false_or_eq_true (decide (k<((dg b.x).length))) with hg1|hg1
   ·skip
    refine AD.retell (k:=26) (u:=Value.bool true) rfl (by rw [hg1]) ?_
    have hg1':=hg1
    replace hg1':=of_decide_eq_true hg1'
    exact AD.skip (AH rfl) rfl (AV rfl) (AD.skip (AH rfl) rfl (AV rfl) (AK (v:=(Value.bool true)) (AX rfl rfl) rfl (AD.nil (AC.mid (sS rfl (sS rfl (sS rfl (sS rfl (sS rfl (sS rfl (sS rfl (sS rfl (sS rfl (sS rfl (sS rfl (sS (by first|rfl|(rw [hg1];rfl)|rw [hg1]) (sS (by first|rfl|(rw [hg1];rfl)|rw [hg1]) (sN)))))))))))))) (List.Sublist.refl _)))))
   ·skip
    refine AD.retell (k:=26) (u:=Value.bool false) rfl (by rw [hg1]) ?_
    have hg1':=hg1
    replace hg1':=of_decide_eq_false hg1'
    exact AD.step (v:=(vN cy)) (AB rfl) (A9 rfl) rfl (AV rfl) (AD.step (v:=(Value.bool (decide (0<cy)))) (AB rfl) (Bb (c:=(decide (0<cy))) rfl rfl (CI (a:=0) (b:=cy))) rfl (AV rfl) (AK (v:=(Value.bool (decide (0<cy)))) (AR rfl rfl) rfl (AD.nil (AC.mid (sS rfl (sS rfl (sS rfl (sS rfl (sS rfl (sS rfl (sS rfl (sS rfl (sS rfl (sS rfl (sS rfl (sS (by first|rfl|(rw [hg1];rfl)|rw [hg1]) (sS (by first|rfl|(rw [hg1];rfl)|rw [hg1]) (sN)))))))))))))) (List.Sublist.refl _)))))
  refine AD.nil (AC.subF (sL [0,1,4,5,6,7,8,29] rfl) (AC.then_ ?_))
  refine AE.cond rfl (λhc1=>?_) (λhc1=>?_)
  ·simp only [Bool.and_eq_true,Bool.or_eq_true,Bool.and_eq_false_iff,Bool.or_eq_false_iff,Bool.not_eq_true',Bool.not_eq_false',decide_eq_true_eq,decide_eq_false_iff_not] at hc1
   refine AE.skip (q1 (AE.block (AE.seq (CS [(0,true),(1,true),(2,true),(3,true),(4,true),(5,true),(6,true),(7,true),(8,true),(9,true),(10,true),(11,true),(15,true),(12,false),(13,true),(14,true),(16,true),(17,true)] sr (BT rfl ?_)))))
   refine BT rfl (BT rfl (Ap rfl (Ac (c:=((i+k:Nat):Int)) rfl rfl (Ae (a:=i) (b:=k) (by omega))) (Ap (v:=(pP (pB (some ⟨b1,0,none⟩)) (pO (some ⟨b1,0,none⟩)+(i+k)*1))) rfl (AO (j:=i+k) rfl rfl ho_b1.row Tryz.underlying71 Tryz.sizeOf3 rfl (by omega)) (Ap rfl (Dm (v:=(vN (es.getD (i+k) 0))) (i:=0) rfl rfl ho_b1 (by simp [CC];omega) (ho_b1.row.ne (by omega)) Bo (DC (ds:=es) (j:=i+k) (by omega))) (BT rfl ?_)))))
   refine BT rfl (Ap (v:=(pP (pB a.p) (pO a.p+i*1))) rfl (AO (j:=i) rfl rfl a.ok Tryz.underlying71 Tryz.sizeOf3 rfl (by omega)) (Ap rfl (Ah (v:=(vN ((dg a.x).getD i 0))) (i:=1) rfl rfl (a.ok.ne (by omega)) Bo (DC (ds:=dg a.x) (j:=i) (by omega))) (BT rfl (BT rfl (BT rfl ?_)))))
   refine OkE.imp rfl ?_
   have hz1:=FS b.x k
   refine CN Tryz.call199 (λw hw=>Kn b k (by omega) w (hw.holds (i:=2) rfl)) rfl (OkE.back sr (Ap rfl (DQ (c:=((((dg a.x).getD i 0)*((dg b.x).getD k 0):Nat):Int)) rfl rfl (Et (a:=(dg a.x).getD i 0) (b:=(dg b.x).getD k 0) (by omega))) (Ap rfl (Ac (c:=(((es.getD (i+k) 0)+(((dg a.x).getD i 0)*((dg b.x).getD k 0)):Nat):Int)) rfl rfl (Ae (a:=es.getD (i+k) 0) (b:=((dg a.x).getD i 0)*((dg b.x).getD k 0)) (by omega))) (Ap rfl (Ac (c:=((((es.getD (i+k) 0)+(((dg a.x).getD i 0)*((dg b.x).getD k 0)))+cy:Nat):Int)) rfl rfl (Ae (a:=(es.getD (i+k) 0)+(((dg a.x).getD i 0)*((dg b.x).getD k 0))) (b:=cy) (by omega))) (pS' rfl ?_)))))
   refine OkE.nil (AC.subF (sL [0,1,4,5,6,7,8,9] rfl) (q2 (AQ rfl (AQ rfl (AQ rfl ?_)))))
   refine AK (Ac (c:=((i+k:Nat):Int)) rfl rfl (Ae (a:=i) (b:=k) (by omega))) rfl (AQ rfl (AK (Cb (c:=(((((es.getD (i+k) 0)+(((dg a.x).getD i 0)*((dg b.x).getD k 0)))+cy)%10000:Nat):Int)) rfl rfl (by omega) (Jm (a:=((es.getD (i+k) 0)+(((dg a.x).getD i 0)*((dg b.x).getD k 0)))+cy) (b:=10000))) rfl (AK (v:=(pP (pB (some ⟨b1,0,none⟩)) (pO (some ⟨b1,0,none⟩)+(i+k)*1))) (AO (j:=i+k) rfl rfl ho_b1.row Tryz.underlying71 Tryz.sizeOf3 rfl (by omega)) rfl (AD.storeRow0 (j:=i+k) (v:=(vN ((((es.getD (i+k) 0)+(((dg a.x).getD i 0)*((dg b.x).getD k 0)))+cy)%10000))) rfl rfl ho_b1 (by simp [CC];omega) (by omega) rfl Tryz.sizeOf3 rfl (O4 _ _ _) (AD.nil ?_)))))
   refine AC.subF (sL [0,1,4,5,6,7,8,9] rfl) (AC.then_ (AE.region (AQ rfl (AK (EH (c:=(((((es.getD (i+k) 0)+(((dg a.x).getD i 0)*((dg b.x).getD k 0)))+cy)/10000:Nat):Int)) rfl rfl (by omega) (ET (a:=((es.getD (i+k) 0)+(((dg a.x).getD i 0)*((dg b.x).getD k 0)))+cy) (b:=10000) (by omega))) rfl (asg' rfl ?_)))))
   refine AD.nil (AC.subF (sL [0,1,4,5,6,7,8,9] rfl) (AC.in_normal (AC.then_ (AE.region (AQ rfl ?_)))))
   refine AK (Ac (c:=((k+1:Nat):Int)) rfl rfl (Ae (a:=k) (b:=1) (by omega))) rfl (asg' rfl (AD.nil (AC.subF (sL [0,1,4,5,6,7,8,9] rfl) ?_)))
   have hnx:k+1<=(dg b.x).length\/k+1=(dg b.x).length+1/\(es.getD (i+k) 0+(dg a.x).getD i 0*(dg b.x).getD k 0+cy)/10000=0:=by
            by_cases hkb:k<(dg b.x).length
            ·exact .inl (by omega)
            ·obtain rfl:k=(dg b.x).length:=by omega
             refine .inr ⟨rfl,?_⟩
             rw [CV (by omega),CJ] at hve
             have h9:=QY (hV:=UI a.x b.x i hv) hve
             rw [DI (show ¬(dg b.x).length<(dg b.x).length by omega),Nat.mul_zero,Nat.add_zero]
             omega
   exact AC.round3 ((((es.getD (i+k) 0)+(((dg a.x).getD i 0)*((dg b.x).getD k 0)))+cy)/10000) (k+1) (es.set (i+k) ((es.getD (i+k) 0+(dg a.x).getD i 0*(dg b.x).getD k 0+cy)%10000)) (⟨OF hee (by omega),by simpa using hke,by omega,hnx,by rw [Bp];exact NQ (by omega) hve rfl⟩) (by omega) (sF rfl) sr
  ·simp only [Bool.and_eq_true,Bool.or_eq_true,Bool.and_eq_false_iff,Bool.or_eq_false_iff,Bool.not_eq_true',Bool.not_eq_false',decide_eq_true_eq,decide_eq_false_iff_not] at hc1
   have hve2:val10 es=val10 ((dg a.x).take (i+1))*b.x:=by
        rw [show cy=0 by omega,CV (by omega),CJ,hv,Nat.mul_zero,Nat.add_zero] at hve
        rw [hve,Bp,Nat.add_mul]
   refine AE.exit (AC.then_exit (AC.round3_exit (AC.in_exit (AC.in_normal (AC.then_ ?_)))))
   exact AE.region (AQ rfl (AK (Ac (c:=((i+1:Nat):Int)) rfl rfl (Ae (a:=i) (b:=1) (by omega))) rfl (asg' rfl (AD.nil (AC.subF (sL [0,1,4,5,6,7,8] rfl) (AC.round2 (i+1) es (⟨hee,hke,by omega,hve2⟩) (by omega) (sF rfl) sr))))))
 ·replace hc0:=of_decide_eq_false hc0
  have hfin:val10 ds=a.x*b.x:=by rw [hv,CV (by omega),CJ]
  refine AE.exit (AC.then_exit (AC.round2_exit (AC.in_exit (q2 (AQ rfl ?_)))))
  exact CN (args:=[(Value.slice (some ⟨b1,0,none⟩) (((dg a.x).length)+((dg b.x).length)) (((dg a.x).length)+((dg b.x).length)))]) (v:=(Value.slice (some ⟨b1,0,none⟩) ((dg (val10 ds)).length) (((dg a.x).length)+((dg b.x).length)))) Tryz.call200 (λw hw=>(by have h9:=Fx (some ⟨b1,0,none⟩) (((dg a.x).length)+((dg b.x).length)) ds hdd (by rw [<-hk];exact ho_b1.row) (by omega) w (JX (hw.holds (i:=0) rfl) ho_b1 hk);rw [<-hk] at h9;exact h9)) rfl (asg' rfl (AD.nil (AC.subF (sL [0,1,4,5,6] rfl) (AC.then_ (AE.ret (AJ rfl (AS (v:=(Value.slice (some ⟨b1,0,none⟩) ((dg (val10 ds)).length) (((dg a.x).length)+((dg b.x).length)))) rfl) (λw hw=>St hw (i:=0) rfl ho_b1 hk (by rw [<-hfin];exact E3 hdd) (by rw [hfin]))))))))
end
section
set_option maxRecDepth 100000
theorem T9 {a b:Nat} (h:b<a):0<C0 a b:=by unfold C0;rw [if_neg (by omega),if_neg (by omega)];omega
theorem Rv {a b:Nat} (h:¬C0 a b<=0):b<a:=by
 unfold C0 at h
 split at h
 ·omega
 ·split at h<;>omega
theorem Oe (a b:NV) (hb0:0<b.x) (hla:(dg a.x).length<=274877906944) (hlb:(dg b.x).length<=274877906944) (w:World) (ha:Holds w (nA a)) (hb:Holds w (nA b)):Calls Tryz.prog 196 #[(nV a),(nV b)] w (IR w [] [a.p.map (·.block)] (a.x/b.x) (a.x%b.x)):=by
 obtain ⟨k,hk⟩:∃k,k=(dg b.x).length-3:=⟨_,rfl⟩
 obtain ⟨tp,htp⟩:∃tp,tp=b.x/10000^k:=⟨_,rfl⟩
 have htb:=UO b.x
 have htp1:=Nc hb0
 rw [<-hk] at htb htp1
 rw [<-htp] at htp1
 have htb2:=htb
 rw [<-htp] at htb2
 have hlb1:=(If hb0).2
 refine Aj (args:=[(nV a),(nV b)]) (L:=[nA a,nA b]) Tryz.func196 rfl rfl (AV rfl) (Bw rfl ha (Bw rfl hb (Ax))) (AE.subF (sL [0,1] rfl) (q4 (asg' rfl (asg' rfl (AD.nil ?_)))))
 refine q1 (q4 (AQ rfl (AQ rfl (CN Tryz.call198 (λw hw=>Om a b (by first|omega|(dsimp only;omega)) (by first|omega|(dsimp only;omega)) w (hw.holds (i:=0) rfl) (hw.holds (i:=1) rfl)) rfl (AK (Ai (c:=(decide ((C0 a.x b.x)<(0:Int)))) rfl rfl rfl) rfl ?_)))))
 refine AD.nil (AC.subF (sL [0,1,4,5,18] rfl) (AC.then_ ?_))
 refine AE.cond rfl (λhc0=>?_) (λhc0=>?_)
 ·replace hc0:=of_decide_eq_true hc0
  rw [GI] at hc0
  refine q4 (AQ rfl (asg' rfl (asg' rfl (AD.nil (AC.subF (sL [0,1,4,5] rfl) ?_)))))
  exact AC.then_ (AE.ret (AC.then_ret (CO rfl (AS (v:=(Value.slice none 0 0)) rfl) (AS (v:=(nV a)) rfl) (λw hw=>(by rw [Nat.mod_eq_of_lt hc0];exact Va hw (Nat.div_eq_of_lt hc0) (k:=0) rfl)))))
 ·replace hc0:=of_decide_eq_false hc0
  rw [GI] at hc0
  have hlab:=G4 (Nat.le_of_not_lt hc0)
  obtain ⟨m,hm1⟩:∃m,m=(dg a.x).length-(dg b.x).length+1:=⟨_,rfl⟩
  have hm:m+(dg b.x).length=(dg a.x).length+1:=by omega
  refine AE.skip (q2 (AQ rfl (AK (v:=(vN ((dg b.x).length))) (AF rfl Tryz.underlying71) rfl (AK (BQ (c:=((((dg b.x).length:Nat):Int)-3)) rfl rfl (BS (by omega) (by omega))) rfl (AK (Er (c:=((k:Nat):Int)) rfl rfl (by split<;>omega)) rfl ?_)))))
  refine asg' rfl (q3 (sL [0,1,4,5,6] rfl) (AQ rfl (AQ rfl (CN (args:=[(nV b),(vN k)]) (v:=(vN tp)) Tryz.call245 (λw hw=>(by rw [htp];exact L8 b k (by omega) (by first|omega|(dsimp only;omega)) (by first|omega|(dsimp only;omega)) w (hw.holds (i:=1) rfl))) rfl (asg' rfl ?_)))))
  refine q3 (sL [0,1,4,5,6,7] rfl) (AQ rfl (AK (v:=(vN ((dg a.x).length))) (AF rfl Tryz.underlying71) rfl (AQ rfl (AK (v:=(vN ((dg b.x).length))) (AF rfl Tryz.underlying71) rfl (AK (BQ (c:=(((m:Nat):Int)-1)) rfl rfl (by rw [BS (by omega) (by omega)];omega)) rfl ?_)))))
  refine asg' rfl (q3 (sL [0,1,4,5,6,7,8] rfl) (AQ rfl (AK (Ac (c:=((m:Nat):Int)) rfl rfl (by rw [BS (by omega) (by omega)];omega)) rfl (AD.makeDig (m:=m) XD rfl rfl (by omega) rfl rfl λb1 ho_b1=>asg' rfl ?_))))
  refine q3 (sL [0,1,4,5,6,7,8,9] rfl) (AD.openV (V:=λb2=>(Value.slice (some ⟨b2,0,none⟩) 0 0)) (T:=3) (cs:=[]) (AW rfl) (GK Tryz.underlying71 Tryz.sizeOf3) rfl (AV rfl) λb2=>AD.asRow0 (z:=1) 0 rfl (by omega) λho_b2=>AQ rfl (AQ rfl (AK (Ac (c:=((m:Nat):Int)) rfl rfl (by rw [BS (by omega) (by omega)];omega)) rfl ?_)))
  refine AK (v:=(Value.slice (WT a.p m a.c 1) ((dg a.x).length-m) (a.c-m))) (Mi (i:=m) rfl rfl Tryz.underlying71 Tryz.sizeOf3 (by omega) a.ok.le) rfl (AD.appendS0 (cs2:=dgL (([])++(((dg a.x)).drop m))) (news:=dgL (((dg a.x)).drop m)) SG rfl ho_b2 rfl rfl (VM (k:=2) rfl a.ok (by omega)) (by simp [CC]) (OU _) (KM (by omega)) (by omega) (by rw [EE];rfl) rfl λp_1 c_1 ho_1=>AD.frozenD 0 (X:=a.x/10000^m) rfl ho_1 (by simp) (by rw [<-Oy];exact (List.take_length).symm) rfl λhok0 hloc0=>AD.retell (k:=40) (u:=(Value.slice p_1 ((dg (a.x/10000^m)).length) c_1)) rfl (by rw [show 0+((dg a.x).length-m)=(dg (a.x/10000^m)).length by rw [<-Oy];simp]) (asg' rfl (q6 (sL [0,1,4,5,6,7,8,9,10] rfl) ?_)))
  refine AE.block ?_
  refine AE.lp5 (tg λ(j:Nat) (qs:List Nat) (R:Nat) (p:Option Addr) (c:Nat)=>j<=m/\Hv qs/\m=qs.length/\val10 qs=10000^j*(a.x/10000^j/b.x)/\R=a.x/10000^j%b.x/\A7 p (dg R).length c/\DR w [] p) (tg λ(j:Nat) (qs:List Nat) (R:Nat) (p:Option Addr) (c:Nat)=>[(0,(nV a)),(1,(nV b)),(4,(Value.slice none 0 0)),(5,(Value.slice none 0 0)),(6,(vN k)),(7,(vN tp)),(9,(Value.slice (some ⟨b1,0,none⟩) m m)),(8,(vI (((j:Nat):Int)-1))),(10,(Value.slice p ((dg R).length) c))]) (tg λ(j:Nat) (qs:List Nat) (R:Nat) (p:Option Addr) (c:Nat)=>[AG p (dgL (dg R)),rowW (some ⟨b1,0,none⟩) 3 1 m m (dgL qs),nA a,nA b]) (tg λ(j:Nat) (qs:List Nat) (R:Nat) (p:Option Addr) (c:Nat)=>j) m (List.replicate m 0) (a.x/10000^m) p_1 c_1 (⟨Nat.le_refl _,KF _,by simp,by rw [H1,Nat.div_eq_of_lt (Lw hb0 hm),Nat.mul_zero],(Nat.mod_eq_of_lt (Lw hb0 hm)).symm,hok0,hloc0⟩) (sF rfl) sr (λj qs R p c hJ=>?_)
  obtain ⟨hj,hdd,hk,hv,hR,hok,hloc⟩:=hJ
  refine AE.seq (q4 (AQ rfl (AK (DH (c:=(decide ((0:Int)<=(((j:Nat):Int)-1)))) rfl rfl rfl) rfl (AD.nil (AC.subF (sL [0,1,4,5,6,7,9,8,10,42] rfl) ?_)))))
  refine AC.then_ ?_
  refine AE.cond rfl (λhc1=>?_) (λhc1=>?_)
  ·replace hc1:=of_decide_eq_true hc1
   have hj1:1<=j:=by omega
   obtain ⟨R1,hR1⟩:∃R1,R1=10000*R+(dg a.x).getD (j-1) 0:=⟨_,rfl⟩
   have hRb:R<b.x:=by rw [hR];exact Nat.mod_lt _ hb0
   have hd1:=FS a.x (j-1)
   have hR1b:R1<10000*b.x:=by omega
   have hA:=O1 a.x (j-1)
   rw [Nat.sub_add_cancel hj1] at hA
   have hst:=Nf hb0 hA hR hR1
   have hR1l:(dg R1).length<=(dg b.x).length+1:=by refine FD (Nat.lt_of_lt_of_le hR1b ?_);rw [Nat.pow_succ];have h8:=Ce (Di b.x);rw [CJ] at h8;omega
   have hRl:=G4 (Nat.le_of_lt hRb)
   have hd9:Hv ([(dg a.x).getD (j-1) 0]++dg R):=λe he=>(List.mem_append.1 he).elim (λh=>by rw [List.mem_singleton.1 h];omega) (λh=>Di R e h)
   have hv9:val10 ([(dg a.x).getD (j-1) 0]++dg R)=R1:=by rw [List.singleton_append,val10,CJ];omega
   have hk9:1+(dg R).length=([(dg a.x).getD (j-1) 0]++dg R).length:=by simp [Nat.add_comm]
   obtain ⟨f,hf⟩:∃f,f=R1/10000^k:=⟨_,rfl⟩
   have hfb:=PB hR1b htb
   rw [<-hf] at hfb
   obtain ⟨q,hq⟩:∃q,q=R1/b.x:=⟨_,rfl⟩
   have hq1:q<=9999:=by have:=(Nat.div_lt_iff_lt_mul hb0).2 hR1b;omega
   have hqR:b.x*q<=R1:=by rw [hq];exact Nat.mul_div_le _ _
   have hlow:f/(tp+1)<=q:=by rw [hf,htp,hq];exact Tj hb0
   have hhigh:q<=f/tp:=by rw [hf,htp,hq];exact RE (by rw [<-htp];exact htp1)
   have hf2:f/(tp+1)<=f:=Nat.div_le_self _ _
   refine AE.retell (k:=8) (u:=(vN (j-1))) rfl (by show Value.int _ _=Value.int _ _;congr 1;omega) (AE.skip (q1 (AE.block (q4 (AQ rfl ?_)))))
   refine AQ rfl (AK (v:=(pP (pB a.p) (pO a.p+(j-1)*1))) (AO (j:=j-1) rfl rfl a.ok Tryz.underlying71 Tryz.sizeOf3 rfl (by omega)) rfl (AK (Ah (v:=(vN ((dg a.x).getD (j-1) 0))) (i:=2) rfl rfl (a.ok.ne (by omega)) Bo (DC (ds:=dg a.x) (j:=j-1) (by omega))) rfl (AD.openV (V:=λb3=>(Value.slice (some ⟨b3,0,none⟩) 1 1)) (T:=3) (cs:=[(vN ((dg a.x).getD (j-1) 0))]) (AW rfl) (BI (cs:=[(vN ((dg a.x).getD (j-1) 0))]) (pv:=[(0,(vN ((dg a.x).getD (j-1) 0)))]) Tryz.underlying71 Tryz.sizeOf3 Tryz.zeroValue3 (by decide) (by decide) rfl (by kernel_rfl)) rfl (AV rfl) λb3=>AD.asRow0 (z:=1) 1 rfl (by omega) λho_b3=>AQ rfl ?_)))
   refine AD.appendS0 (cs2:=dgL (([(dg a.x).getD (j-1) 0])++(dg R))) (news:=dgL (dg R)) SG rfl ho_b3 rfl rfl (NT (k:=1) rfl hok) (by simp [CC]) (OU _) (KM (by omega)) (by omega) (by rw [EE];rfl) rfl λp_2 c_2 ho_2=>CN (args:=[(Value.slice p_2 (1+((dg R).length)) c_2)]) (v:=(Value.slice p_2 ((dg R1).length) c_2)) Tryz.call200 (λw hw=>(by have h9:=Fx p_2 c_2 (([(dg a.x).getD (j-1) 0])++(dg R)) hd9 (by rw [<-hk9];exact ho_2.row) (by simp;omega) w (JX (hw.holds (i:=0) rfl) ho_2 hk9);rw [hv9,<-hk9] at h9;exact h9)) rfl (AD.frozenD 0 (X:=R1) rfl ho_2 hk9 (by rw [<-hv9];exact E3 hd9) rfl λhok1 hloc1=>asg' rfl (q3 (sL [0,1,4,5,6,7,9,8,10] rfl) (AQ rfl ?_)))
   refine AQ rfl (CN (args:=[(Value.slice p_2 ((dg R1).length) c_2),(vN k)]) (v:=(vN f)) Tryz.call245 (λw hw=>(by rw [hf];exact L8 (NV.mk p_2 c_2 R1 hok1) k (by omega) (by first|omega|(dsimp only;omega)) (by first|omega|(dsimp only;omega)) w (hw.holds (i:=0) rfl))) rfl (asg' rfl (q6 (sL [0,1,4,5,6,7,9,8,10,11] rfl) (CS [(0,true),(1,true),(2,true),(3,true),(4,true),(5,true),(6,true),(7,true),(8,true),(9,true)] sr (BT rfl ?_)))))
   refine BT rfl (Ap rfl (Ac (c:=((tp+1:Nat):Int)) rfl rfl (Ae (a:=tp) (b:=1) (by omega))) (Ap rfl (EH (c:=((f/(tp+1):Nat):Int)) rfl rfl (by omega) (ET (a:=f) (b:=tp+1) (by omega))) (BT rfl (BT rfl (Ap rfl (EH (c:=((f/tp:Nat):Int)) rfl rfl (by omega) (ET (a:=f) (b:=tp) (by omega))) ?_)))))
   refine Ap rfl (Fg (c:=((min (f/tp) 9999:Nat):Int)) rfl rfl (by split<;>omega)) (pS' rfl (pS' rfl (OkE.nil (AC.subF (sL [0,1,4,5,6,7,9,8,10,12,13] rfl) (q1 ?_)))))
   refine AE.block ?_
   refine AE.lp2 (tg λ(lo:Nat) (hi:Nat)=>lo<=q/\q<=hi/\hi<=9999) (tg λ(lo:Nat) (hi:Nat)=>[(0,(nV a)),(1,(nV b)),(4,(Value.slice none 0 0)),(5,(Value.slice none 0 0)),(6,(vN k)),(7,(vN tp)),(9,(Value.slice (some ⟨b1,0,none⟩) m m)),(8,(vN (j-1))),(10,(Value.slice p_2 ((dg R1).length) c_2)),(12,(vN lo)),(13,(vN hi))]) (tg λ(lo:Nat) (hi:Nat)=>[AG p_2 (dgL (dg R1)),AG p (dgL (dg R)),rowW (some ⟨b1,0,none⟩) 3 1 m m (dgL qs),nA a,nA b]) (tg λ(lo:Nat) (hi:Nat)=>hi-lo) (f/(tp+1)) (min (f/tp) 9999) (⟨hlow,by omega,by omega⟩) (sF rfl) sr (λlo hi hJ=>?_)
   obtain ⟨hlo,hhi,hh9⟩:=hJ
   refine AE.seq (q4 (AQ rfl (AQ rfl (AK (Ai (c:=(decide (lo<hi))) rfl rfl (CI (a:=lo) (b:=hi))) rfl (AD.nil ?_)))))
   refine AC.subF (sL [0,1,4,5,6,7,9,8,10,12,13,66] rfl) (AC.then_ ?_)
   refine AE.cond rfl (λhc2=>?_) (λhc2=>?_)
   ·replace hc2:=of_decide_eq_true hc2
    refine AE.skip (AC.then_ (AE.block (q4 (AQ rfl (AQ rfl ?_)))))
    refine AK (Ac (c:=((lo+hi:Nat):Int)) rfl rfl (Ae (a:=lo) (b:=hi) (by omega))) rfl (AK (Ac (c:=(((lo+hi)+1:Nat):Int)) rfl rfl (Ae (a:=lo+hi) (b:=1) (by omega))) rfl (AK (EH (c:=((((lo+hi)+1)/2:Nat):Int)) rfl rfl (by omega) (ET (a:=(lo+hi)+1) (b:=2) (by omega))) rfl (asg' rfl (q3 (sL [0,1,4,5,6,7,9,8,10,12,13,14] rfl) (AQ rfl ?_)))))
    refine AQ rfl (AK (A6 (c:=((((lo+hi)+1)/2:Nat):Int)) rfl Tryz.underlying3 Tryz.underlying40 (BK (by omega))) rfl (AD.callN (args:=[(vK .u64 (((lo+hi)+1)/2))]) Tryz.call194 (λw hw=>Ni (((lo+hi)+1)/2) (by omega) w) Nb rfl rfl rfl λv1 hv1 lv1=>?_))
    have hlv1:(dg v1.x).length<=1:=FD (by omega)
    refine AD.callN (args:=[(nV b),(nV v1)]) Tryz.call143 (λw hw=>Ke b v1 (by first|omega|(dsimp only;omega)) (by first|omega|(dsimp only;omega)) w (hw.holds (i:=5) rfl) (hw.holds (i:=0) rfl)) Nb rfl rfl rfl λv2 hv2 lv2=>?_
    have hlv2:(dg v2.x).length<=(dg b.x).length+1:=by refine FD ?_;rw [hv2,Nat.pow_succ];have h8:=Ce (Di b.x);rw [CJ] at h8;exact Nat.mul_lt_mul_of_lt_of_le h8 (by omega) (by omega)
    refine AQ rfl (CN Tryz.call198 (λw hw=>Om v2 (NV.mk p_2 c_2 R1 hok1) (by first|omega|(dsimp only;omega)) (by first|omega|(dsimp only;omega)) w (hw.holds (i:=0) rfl) (hw.holds (i:=2) rfl)) rfl (AK (FH (c:=(decide ((C0 v2.x R1)<=(0:Int)))) rfl rfl rfl) rfl (AD.nil (AC.subF (sL [0,1,4,5,6,7,9,8,10,12,13,14,79] rfl) (AC.then_ ?_)))))
    refine AE.cond rfl (λhc3=>?_) (λhc3=>?_)
    ·replace hc3:=of_decide_eq_true hc3
     have hmq:(lo+hi+1)/2<=q:=by rw [hq];refine (Nat.le_div_iff_mul_le hb0).2 ?_;rw [Nat.mul_comm,<-hv1,<-hv2];exact Nat.le_of_not_lt λh=>by have h8:=T9 h;omega
     exact AE.region (AQ rfl (asg' rfl (AD.nil (AC.subF (sL [0,1,4,5,6,7,9,8,10,12,13,14] rfl) (AC.in_normal (AC.round2 (((lo+hi)+1)/2) hi (⟨by omega,by omega,by omega⟩) (by omega) (sF rfl) (sl (sl sr))))))))
    ·replace hc3:=of_decide_eq_false hc3
     have hmq:q<(lo+hi+1)/2:=by rw [hq];refine (Nat.div_lt_iff_lt_mul hb0).2 ?_;rw [Nat.mul_comm,<-hv1,<-hv2];exact Rv (by omega)
     refine AE.region (AQ rfl (AK (BQ (c:=(((((lo+hi)+1)/2)-1:Nat):Int)) rfl rfl (Bv (a:=((lo+hi)+1)/2) (b:=1) (by omega) (by omega))) rfl (asg' rfl (AD.nil (AC.subF (sL [0,1,4,5,6,7,9,8,10,12,13,14] rfl) ?_)))))
     exact AC.in_normal (AC.round2 lo ((((lo+hi)+1)/2)-1) (⟨by omega,by omega,by omega⟩) (by omega) (sF rfl) (sl (sl sr)))
   ·replace hc2:=of_decide_eq_false hc2
    have hlq:lo=q:=by omega
    refine AE.exit (AC.then_exit (AC.round2_exit (AC.in_exit (q2 (AQ rfl ?_)))))
    refine AQ rfl (AQ rfl (AK (v:=(pP (pB (some ⟨b1,0,none⟩)) (pO (some ⟨b1,0,none⟩)+(j-1)*1))) (AO (j:=j-1) rfl rfl ho_b1.row Tryz.underlying71 Tryz.sizeOf3 rfl (by omega)) rfl (AD.storeRow2 (j:=j-1) (v:=(vN lo)) rfl rfl ho_b1 (by simp [CC];omega) (by omega) rfl Tryz.sizeOf3 rfl (O4 _ _ _) (AD.nil (AC.subF (sL [0,1,4,5,6,7,9,8,10,12,13] rfl) ?_)))))
    refine AC.then_ (AE.region (AQ rfl (AQ rfl (AQ rfl (AK (A6 (c:=((lo:Nat):Int)) rfl Tryz.underlying3 Tryz.underlying40 (BK (by omega))) rfl ?_)))))
    refine AD.callN (args:=[(vK .u64 lo)]) Tryz.call194 (λw hw=>Ni lo (by omega) w) Nb rfl rfl rfl λv3 hv3 lv3=>?_
    have hlv3:(dg v3.x).length<=1:=FD (by omega)
    refine AD.callN (args:=[(nV b),(nV v3)]) Tryz.call143 (λw hw=>Ke b v3 (by first|omega|(dsimp only;omega)) (by first|omega|(dsimp only;omega)) w (hw.holds (i:=5) rfl) (hw.holds (i:=0) rfl)) Nb rfl rfl rfl λv4 hv4 lv4=>?_
    have hlv4:(dg v4.x).length<=(dg b.x).length+1:=by refine FD ?_;rw [hv4,Nat.pow_succ];have h8:=Ce (Di b.x);rw [CJ] at h8;exact Nat.mul_lt_mul_of_lt_of_le h8 (by omega) (by omega)
    have hv4R:v4.x<=R1:=by rw [hv4,hv3,hlq];exact hqR
    refine AD.callN (args:=[(Value.slice p_2 ((dg R1).length) c_2),(nV v4)]) Tryz.call197 (λw hw=>Oa (NV.mk p_2 c_2 R1 hok1) v4 hv4R (by first|omega|(dsimp only;omega)) w (hw.holds (i:=2) rfl) (hw.holds (i:=0) rfl)) Nb rfl rfl rfl λv5 hv5 lv5=>asg' rfl (AD.nil (AC.subF (sL [0,1,4,5,6,7,9,8,10,12,13] rfl) (AC.in_normal (AC.then_ ?_))))
    exact AE.region (AQ rfl (AK (BQ (c:=(((j-1:Nat):Int)-1)) rfl rfl (BS (by omega) (by omega))) rfl (asg' rfl (AD.nil (AC.subF (sL [0,1,4,5,6,7,9,8,10,12,13] rfl) (AC.round5 (j-1) (qs.set (j-1) lo) v5.x v5.p v5.c (⟨by omega,OF hdd (by omega),by simpa using hk,Py hdd hk hj1 hj hv (by rw [hlq,hq];exact hst.1),by rw [hv5,hv4,hv3,hlq,hst.2,hq];exact Nat.sub_eq_of_eq_add (Nat.mod_add_div _ _).symm,v5.ok,lv5⟩) (by omega) (sF rfl) (sk (sl (sl (sl (sl sr)))))))))))
  ·replace hc1:=of_decide_eq_false hc1
   obtain rfl:j=0:=by omega
   have hfin:val10 qs=a.x/b.x:=by rw [hv];simp
   have hfin2:R=a.x%b.x:=by rw [hR];simp
   refine AE.exit (AC.then_exit (AC.round5_exit (AC.in_exit (q2 (AQ rfl ?_)))))
   refine CN (args:=[(Value.slice (some ⟨b1,0,none⟩) m m)]) (v:=(Value.slice (some ⟨b1,0,none⟩) ((dg (val10 qs)).length) m)) Tryz.call200 (λw hw=>(by have h9:=Fx (some ⟨b1,0,none⟩) m qs hdd (by rw [<-hk];exact ho_b1.row) (by omega) w (JX (hw.holds (i:=1) rfl) ho_b1 hk);rw [<-hk] at h9;exact h9)) rfl (AQ rfl (asg' rfl (asg' rfl (AD.nil (AC.subF (sL [0,1,4,5,6,7,9,8,10] rfl) ?_)))))
   exact AC.then_ (AE.ret (CO rfl (AS (v:=(Value.slice (some ⟨b1,0,none⟩) ((dg (val10 qs)).length) m)) rfl) (AS (v:=(Value.slice p ((dg R).length) c)) rfl) (λw hw=>Wo hw (i:=1) (k:=0) rfl ho_b1 hk (by rw [<-hfin];exact E3 hdd) (by rw [hfin]) (by rw [<-hfin2];rfl) (by rw [<-hfin2];exact hok) hloc (by rw [<-hfin2]))))
theorem T0 (a b:NV) (hla:(dg a.x).length<=274877906944) (hlb:(dg b.x).length<=274877906944) (w:World) (ha:Holds w (nA a)) (hb:Holds w (nA b)):Calls Tryz.prog 195 #[(nV a),(nV b)] w (F1 w [a.p.map (·.block),b.p.map (·.block)] (Nat.gcd a.x b.x)):=by
 refine Aj (args:=[(nV a),(nV b)]) (L:=[nA b,nA a]) Tryz.func195 rfl rfl (AV rfl) (Bw rfl hb (Bw rfl ha (Ax))) (AE.subF (sL [0,1] rfl) (q4 (asg' rfl (AD.nil (q1 ?_)))))
 refine AE.block ?_
 refine AE.lp2 (tg λ(u:NV) (v:NV)=>Nat.gcd u.x v.x=Nat.gcd a.x b.x/\(dg u.x).length<=274877906944/\(dg v.x).length<=274877906944/\DR w [a.p.map (·.block),b.p.map (·.block)] u.p/\DR w [a.p.map (·.block),b.p.map (·.block)] v.p) (tg λ(u:NV) (v:NV)=>[(4,(Value.slice none 0 0)),(0,(nV u)),(1,(nV v))]) (tg λ(u:NV) (v:NV)=>[nA v,nA u]) (tg λ(u:NV) (v:NV)=>v.x) a b (⟨rfl,hla,hlb,λs e=>.inr (by rw [<-e];exact List.mem_cons_self),λs e=>.inr (by rw [<-e];exact List.mem_cons_of_mem _ List.mem_cons_self)⟩) (sF rfl) sr (λu v hJ=>?_)
 obtain ⟨hg,hlu,hlv,hu,hv⟩:=hJ
 refine AE.seq (q4 (AQ rfl (AK (v:=(vN ((dg v.x).length))) (AF rfl Tryz.underlying71) rfl (AK (Bb (c:=(decide (0<((dg v.x).length)))) rfl rfl (CI (a:=0) (b:=(dg v.x).length))) rfl (AD.nil ?_)))))
 refine AC.subF (sL [4,0,1,9] rfl) (AC.then_ ?_)
 refine AE.cond rfl (λhc0=>?_) (λhc0=>?_)
 ·replace hc0:=of_decide_eq_true hc0
  have hv0:0<v.x:=by
     rcases Nat.eq_zero_or_pos v.x with h|h
     ·rw [h] at hc0;exact absurd hc0 (by decide)
     ·exact h
  refine AE.skip (AC.then_ (AE.block (q4 (AQ rfl (AQ rfl ?_)))))
  refine AD.callNN (args:=[(nV u),(nV v)]) Tryz.call196 (λw hw=>Oe u v hv0 hlu hlv w (hw.holds (i:=1) rfl) (hw.holds (i:=0) rfl)) Nb (Xt (y:=nA u) 1 rfl rfl Nb) rfl rfl rfl λq1 r1 hq1 hr1 lq1 lr1=>AQ rfl (AK (AZ (v:=(nV q1)) rfl rfl) rfl (AK (AZ (v:=(nV r1)) rfl rfl) rfl (asg' rfl (asg' rfl ?_))))
  refine q3 (sL [4,0,1,6] rfl) (AQ rfl (asg' rfl (AD.nil (AC.subF (sL [4,0,1,6] rfl) (AC.then_ ?_)))))
  exact AE.region (AQ rfl (asg' rfl (AD.nil (AC.subF (sL [4,0,1] rfl) (AC.in_normal (AC.round2 v r1 (⟨by rw [<-hg,hr1,Nat.gcd_comm,<-Nat.gcd_rec,Nat.gcd_comm],hlv,Nat.le_trans (G4 (by rw [hr1];exact Nat.le_of_lt (Nat.mod_lt _ hv0))) hlv,hv,lr1.mono (λs hs c e=>hu c (by rw [List.mem_singleton.1 hs] at e;exact e))⟩) (by rw [hr1];exact Nat.mod_lt _ hv0) (sF rfl) (sl (sk (sk (sl sr))))))))))
 ·replace hc0:=of_decide_eq_false hc0
  have hv0:v.x=0:=by
     rcases Nat.eq_zero_or_pos v.x with h|h
     ·exact h
     ·have:=(If h).2;omega
  rw [hv0,Nat.gcd_zero_right] at hg
  refine AE.exit (AC.then_exit (AC.round2_exit (AC.in_exit (q2 (AQ rfl ?_)))))
  exact asg' rfl (AD.nil (AC.subF (sL [4,0,1] rfl) (AC.then_ (AE.ret (AJ rfl (AS (v:=(nV u)) rfl) (λw hw=>⟨u,hg,rfl,hw.out,hw.holds (i:=1) rfl,hu⟩))))))
end
section
def txB (l:List UInt8):ByteArray:=⟨l.toArray⟩
theorem C_ (l:List UInt8):(txB l).size=l.length:=by simp [txB,ByteArray.size]
theorem DF (a b:List UInt8):txB a++txB b=txB (a++b):=by
  apply ByteArray.ext
  simp [txB]
def Ek:Nat->Nat->List UInt8
  | 0,_=>[]
  | k+1,x=>UInt8.ofNat (48+x/10^k%10)::Ek k x
theorem L3 (k x:Nat):(Ek k x).length=k:=by
  induction k with
  | zero=>rfl
  | succ k ih=>rw [Ek,List.length_cons,ih]
theorem Pz (k x:Nat):Ek (k+1) x=Ek k (x/10)++[UInt8.ofNat (48+x%10)]:=by
  induction k with
  | zero=>simp [Ek]
  | succ k ih =>
    rw [Ek,ih,Ek,List.cons_append,Nat.pow_succ',<-Nat.div_div_eq_div_mul]
theorem JZ (m x:Nat) (h0:x/10^(m+1)=0) (h1:m=0\/x/10^m≠0):Lib.decDigits x=Ek (m+1) x:=by
  induction m generalizing x with
  | zero =>
    have hx:x<10:=by omega
    rw [Lib.decDigits,dif_pos hx]
    simp [Ek,Nat.mod_eq_of_lt hx]
  | succ m ih =>
    have h2:x/10^(m+1)≠0:=h1.resolve_left (by omega)
    rw [Nat.pow_succ',<-Nat.div_div_eq_div_mul] at h0 h2
    have hx:¬x<10:=λh=>h2 (by rw [Nat.div_eq_of_lt h];exact Nat.zero_div _)
    rw [Lib.decDigits,dif_neg hx,Pz (m+1),ih (x/10) h0 (.inr h2)]
theorem Wl (i:Nat):10^(4*i)=10000^i:=by rw [Nat.pow_mul]
theorem WE {x i k:Nat} (hk:k<4):x/10^(4*i+k)%10=(dg x).getD i 0/10^k%10:=by
  rw [Nat.pow_add,Wl,<-Nat.div_div_eq_div_mul,NS]
  generalize x/10000^i=y
  match k,hk with
  | 0,_=>simp only [Nat.pow_zero,Nat.div_one];omega
  | 1,_=>show y/10%10=y%10000/10%10;omega
  | 2,_=>show y/100%10=y%10000/100%10;omega
  | 3,_=>show y/1000%10=y%10000/1000%10;omega
theorem RC {x i k d:Nat} (hk:k<4) (hd:d=(dg x).getD i 0/10^k):txB [UInt8.ofNat (48+d%10)]++txB (Ek (4*i+k) x)=txB (Ek (4*i+(k+1)) x):=by
  rw [DF,<-Nat.add_assoc,Ek,WE hk,hd]
  rfl
theorem SN {x i k d:Nat} (hx:0<x) (hi:i+1=(dg x).length) (hk:k<=4) (hd:d=(dg x).getD i 0/10^k) (hnz:k=0\/(dg x).getD i 0/10^(k-1)≠0) (hex:k=4\/d=0):Ek (4*i+k) x=Lib.decDigits x:=by
  have h1:=Ce (Di x)
  rw [CJ,<-hi,Nat.pow_succ] at h1
  have h2:=If hx
  rw [<-hi,Nat.add_sub_cancel] at h2
  have hy:x/10000^i<10000:=Nat.div_lt_of_lt_mul h1
  have hy1:1<=x/10000^i:=(Nat.le_div_iff_mul_le (Nat.pow_pos (by omega))).2 (by omega)
  rw [NS,Nat.mod_eq_of_lt hy] at hd hnz
  have e:∀j,x/10^(4*i+j)=x/10000^i/10^j:=λj=>by rw [Nat.pow_add,Wl,<-Nat.div_div_eq_div_mul]
  generalize hyy:x/10000^i=y at *
  have hk1:1<=k:=by
    rcases Nat.eq_zero_or_pos k with h|h
    · subst h;simp at hd;omega
    · exact h
  have hz:y/10^k=0:=by
    rcases hex with h|h
    · subst h;exact Nat.div_eq_of_lt hy
    · omega
  obtain ⟨m,hm⟩:∃m,m+1=4*i+k:=⟨4*i+k-1,by omega⟩
  rw [<-hm]
  refine (JZ m x ?_ (.inr ?_)).symm
  · rw [hm,e,hz]
  · rw [show m=4*i+(k-1) by omega,e]
    exact hnz.resolve_left (by omega)
theorem I1:Lib.decDigits 0=[48]:=by rw [Lib.decDigits,dif_pos (by omega)];rfl
section
variable {P:Program} {n:Nat} {F:List (Nat×Value)} {w0:A_} {L:List As} {t:TypeId} {p:String} {af:Array Edge} {d:Option Tmp} {g:Option (Nat×Bool)} {x:Operand}
theorem Lf {k:IntKind} {a:Nat} {src dst:TypeId} {ds:TypeDesc} (hx:evF F x=some (.int k (a:Nat))) (h1:P.underlying src=some ds) (h2:P.underlying dst=some .string) (ha:a<128):Ex P n F w0 L ⟨d,.convert src dst x,t,p,af,g⟩ (.string (txB [UInt8.ofNat a])):=λA w hf _=>by
  have e:Utf8.encode (a:Nat)=txB [UInt8.ofNat a]:=by
    have hv:Utf8.valid (a:Int)=true:=by simp [Utf8.valid];omega
    simp only [Utf8.encode,hv,if_true,Int.toNat_natCast]
    rw [if_pos (by omega)]
    rfl
  simp only [execOp,hf.ev hx,Sem.run_bind,run_convert_int_string w src dst k (a:Nat) (by rw [h1];rfl) h2,Result.andThen_ok,Sem.run_pure,e]
end
end
end Go.Proofs.YtpgncndhhhllfaaGreatDoor
