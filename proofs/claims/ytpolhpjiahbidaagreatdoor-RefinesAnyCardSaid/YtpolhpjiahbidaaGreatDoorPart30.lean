import Derived.Test.YtpolhpjiahbidaaGreatDoorPart05
import Derived.Test.YtpolhpjiahbidaaGreatDoorPart28
import Derived.Test.YtpolhpjiahbidaaGreatDoorPart29
namespace Go.Proofs.YtpolhpjiahbidaaGreatDoor
open Go Go.RowKit Go.Proofs.Tryz
set_option linter.unusedVariables false
set_option linter.unusedSimpArgs false
section
set_option maxRecDepth 100000
theorem Yi:TF prog 79 3 (vN 0) 8:=⟨underlying79,_,_,rfl,rfl,rfl,rfl,rfl⟩
theorem Nu (a:NV) (k:Nat) (hk:k<=1099511627776) (hla:(dg a.x).length<=1099511627776) (hv:a.x/10000^k<9223372036854775808) (w:World) (ha:Holds w (nA a)):Calls prog 245 #[(nV a),(vN k)] w (Ah w (vN (a.x/10000^k))):=by
 refine AY (args:=[(nV a),(vN k)]) (L:=[nA a]) func245 O O (AI O) (Bt O ha (Aj)) (OkC.subF (sL [0,1] O) (q4 (asg' O (OkL.nil (q2 (asg' O (OkL.nil (q1 (q4 (AM O (AH (v:=(vN ((dg a.x).length))) (AD O underlying79) O ?_)))))))))))
 refine AH (BI (c:=((((dg a.x).length:Nat):Int)-1)) O O (BE Z Z)) O (asg' O (OkL.nil (OkQ.subF (sL [0,1,4,5,6] O) (OkQ.then_ (OkC.block ?_)))))
 refine OkC.lp2 (tg λ(n:Nat) (j:Nat)=>j<=(dg a.x).length/\(k<=j\/j=(dg a.x).length)/\n=a.x/10000^j) (tg λ(n:Nat) (j:Nat)=>[(0,(nV a)),(1,(vN k)),(4,(vI 0)),(5,(vN n)),(6,(vI (((j:Nat):Int)-1)))]) (tg λ(n:Nat) (j:Nat)=>[nA a]) (tg λ(n:Nat) (j:Nat)=>j) 0 ((dg a.x).length) (⟨Nat.le_refl _,.inr O,(Tl a.x).symm⟩) (sF O) sr (λn j hJ=>?_)
 obtain ⟨hm,hkj,hn⟩:=hJ
 refine OkC.seq (q4 (AM O (AM O (AH (Bx (c:=(decide (((k:Nat):Int)<=(((j:Nat):Int)-1)))) O O O) O (OkL.nil (OkQ.subF (sL [0,1,4,5,6,12] O) (OkQ.then_ ?_)))))))
 refine OkC.cond O (λhc0=>?_) (λhc0=>?_)
 ·replace hc0:=of_decide_eq_true hc0
  have hj1:1<=j:=by omega
  have hst:=Pj a.x (j-1)
  rw [Nat.sub_add_cancel hj1,<-hn] at hst
  have hle:=KT a.x (show k<=j-1 by omega)
  refine OkC.retell (k:=6) (u:=(vN (j-1))) O (by show Value.int _ _=Value.int _ _;congr 1;omega) (OkC.skip (q1 (OkC.block (OkC.region (AM O (AH (CN (c:=((10000*n:Nat):Int)) O O (CT (a:=10000) (b:=n) Z)) O (AM O (AM O (AH (v:=(pP (pB a.p) (pO a.p+(j-1)*1))) (AL (j:=j-1) O O a.ok underlying79 sizeOf3 O Z) O (AH (AW (v:=(vN ((dg a.x).getD (j-1) 0))) (i:=0) O O (a.ok.ne Z) BL (DO (ds:=dg a.x) (j:=j-1) Z)) O (AH (AX (c:=(((10000*n)+((dg a.x).getD (j-1) 0):Nat):Int)) O O (AR (a:=10000*n) (b:=(dg a.x).getD (j-1) 0) Z)) O ?_)))))))))))
  exact asg' O (OkL.nil (OkQ.subF (sL [0,1,4,5,6] O) (OkQ.in_normal (OkQ.then_ (OkC.region (AM O (AH (BI (c:=(((j-1:Nat):Int)-1)) O O (BE Z Z)) O (asg' O (OkL.nil (OkQ.subF (sL [0,1,4,5,6] O) (OkQ.round2 ((10000*n)+((dg a.x).getD (j-1) 0)) (j-1) (⟨Z,Z,Z⟩) Z (sF O) sr)))))))))))
 ·replace hc0:=of_decide_eq_false hc0
  have hfin:n=a.x/10000^k:=M8 hn hkj Z
  exact OkC.exit (OkQ.then_exit (OkQ.round2_exit (OkQ.in_exit (q2 (AM O (asg' O (OkL.nil (OkQ.subF (sL [0,1,4,5,6] O) (OkQ.then_ (OkC.ret (ret_one O (rd_tmp (v:=(vN n)) O) (λw hw=>⟨by rw [hfin],hw.out⟩))))))))))))
theorem Mc (a b:NV) (hla:(dg a.x).length<=549755813888) (hlb:(dg b.x).length<=549755813888) (w:World) (ha:Holds w (nA a)) (hb:Holds w (nA b)):Calls prog 162 #[(nV a),(nV b)] w (GP w [] (a.x*b.x)):=by
 refine AY (args:=[(nV a),(nV b)]) (L:=[nA a,nA b]) func162 O O (AI O) (Bt O ha (Bt O hb (Aj))) (OkC.subF (sL [0,1] O) (q4 (asg' O (OkL.nil (q2 (AM O (AH (v:=(vN ((dg a.x).length))) (AD O underlying79) O (AM O (AH (v:=(vN ((dg b.x).length))) (AD O underlying79) O (AH (AX (c:=((((dg a.x).length)+((dg b.x).length):Nat):Int)) O O (AR (a:=(dg a.x).length) (b:=(dg b.x).length) Z)) O (OkL.makeDig (m:=((dg a.x).length)+((dg b.x).length)) Yi O O Z O O λb1 ho_b1=>?_)))))))))))
 refine asg' O (q6 (sL [0,1,4,5] O) (q4 (asg' O (OkL.nil (OkQ.then_ (OkC.block ?_))))))
 refine OkC.lp2 (tg λ(i:Nat) (ds:List Nat)=>Ih ds/\(dg a.x).length+(dg b.x).length=ds.length/\i<=(dg a.x).length/\val10 ds=val10 ((dg a.x).take i)*b.x) (tg λ(i:Nat) (ds:List Nat)=>[(0,(nV a)),(1,(nV b)),(4,(Value.slice none 0 0)),(5,(Value.slice (some ⟨b1,0,none⟩) (((dg a.x).length)+((dg b.x).length)) (((dg a.x).length)+((dg b.x).length)))),(6,(vN i))]) (tg λ(i:Nat) (ds:List Nat)=>[rowW (some ⟨b1,0,none⟩) 3 1 ((dg a.x).length+(dg b.x).length) ((dg a.x).length+(dg b.x).length) (dgL ds),nA a,nA b]) (tg λ(i:Nat) (ds:List Nat)=>(dg a.x).length-i) 0 (List.replicate ((dg a.x).length+(dg b.x).length) 0) (⟨LY _,by simp,Nat.zero_le _,by rw [Il];simp [val10]⟩) (sF O) sr (λi ds hJ=>?_)
 obtain ⟨hdd,hk,hm,hv⟩:=hJ
 have ga:=F1 a.x i
 refine OkC.seq (q4 (AM O (AM O (AH (v:=(vN ((dg a.x).length))) (AD O underlying79) O (AH (Ae (c:=(decide (i<((dg a.x).length)))) O O (CB (a:=i) (b:=(dg a.x).length))) O (OkL.nil (OkQ.subF (sL [0,1,4,5,6,19] O) (OkQ.then_ ?_))))))))
 refine OkC.cond O (λhc0=>?_) (λhc0=>?_)
 ·replace hc0:=of_decide_eq_true hc0
  refine OkC.skip (q1 (OkC.block (q4 (asg' O (OkL.nil (q2 (asg' O (OkL.nil (OkQ.then_ (OkC.block ?_))))))))))
  refine OkC.lp3 (tg λ(cy:Nat) (k:Nat) (es:List Nat)=>Ih es/\(dg a.x).length+(dg b.x).length=es.length/\cy<10000/\(k<=(dg b.x).length\/k=(dg b.x).length+1/\cy=0)/\val10 es+10000^(i+k)*cy=val10 ds+10000^i*(dg a.x).getD i 0*val10 ((dg b.x).take k)) (tg λ(cy:Nat) (k:Nat) (es:List Nat)=>[(0,(nV a)),(1,(nV b)),(4,(Value.slice none 0 0)),(5,(Value.slice (some ⟨b1,0,none⟩) (((dg a.x).length)+((dg b.x).length)) (((dg a.x).length)+((dg b.x).length)))),(6,(vN i)),(7,(vN cy)),(8,(vN k))]) (tg λ(cy:Nat) (k:Nat) (es:List Nat)=>[rowW (some ⟨b1,0,none⟩) 3 1 ((dg a.x).length+(dg b.x).length) ((dg a.x).length+(dg b.x).length) (dgL es),nA a,nA b]) (tg λ(cy:Nat) (k:Nat) (es:List Nat)=>(dg b.x).length+2-k) 0 0 ds (⟨hdd,hk,Z,.inl (Nat.zero_le _),by simp [val10]⟩) (sF O) sr (λcy k es hJ=>?_)
  obtain ⟨hee,hke,hcy,hme,hve⟩:=hJ
  have gb:=F1 b.x k
  have ge:=Vv hee (i+k)
  have hbd:=Q6 ge ga gb hcy
  have hab:(dg a.x).getD i 0*(dg b.x).getD k 0<=9999*9999:=Nat.mul_le_mul Z Z
  refine OkC.seq (q4 (AM O (AM O (AH (v:=(vN ((dg b.x).length))) (AD O underlying79) O (AH (Ae (c:=(decide (k<((dg b.x).length)))) O O (CB (a:=k) (b:=(dg b.x).length))) O (AM O ?_))))))
  refine OkL.mid (FM:=[(0,(nV a)),(1,(nV b)),(4,(Value.slice none 0 0)),(5,(Value.slice (some ⟨b1,0,none⟩) (((dg a.x).length)+((dg b.x).length)) (((dg a.x).length)+((dg b.x).length)))),(6,(vN i)),(7,(vN cy)),(8,(vN k)),(22,(vN k)),(23,(nV b)),(24,(vN ((dg b.x).length))),(25,(Value.bool (decide (k<((dg b.x).length))))),(26,(Value.bool (decide (k<((dg b.x).length))))),(29,(Value.bool ((decide (k<((dg b.x).length)))||(decide (0<cy)))))]) (LM:=[rowW (some ⟨b1,0,none⟩) 3 1 ((dg a.x).length+(dg b.x).length) ((dg a.x).length+(dg b.x).length) (dgL es),nA a,nA b]) 3 ?_ ?_
  ·rcases Bool.eq_false_or_eq_true (decide (k<((dg b.x).length))) with hg1|hg1
   ·skip
    refine OkL.retell (k:=26) (u:=Value.bool true) O (by rw [hg1]) ?_
    have hg1':=hg1
    replace hg1':=of_decide_eq_true hg1'
    exact OkL.skip (AC O) O (AI O) (OkL.skip (AC O) O (AI O) (AH (v:=(Value.bool true)) (AO O O) O (OkL.nil (OkQ.mid (sS O (sS O (sS O (sS O (sS O (sS O (sS O (sS O (sS O (sS O (sS O (sS (by first|rfl|(rw [hg1];rfl)|rw [hg1]) (sS (by first|rfl|(rw [hg1];rfl)|rw [hg1]) (sN)))))))))))))) (List.Sublist.refl _)))))
   ·skip
    refine OkL.retell (k:=26) (u:=Value.bool false) O (by rw [hg1]) ?_
    have hg1':=hg1
    replace hg1':=of_decide_eq_false hg1'
    exact OkL.step (v:=(vN cy)) (AB O) (Ai O) O (AI O) (OkL.step (v:=(Value.bool (decide (0<cy)))) (AB O) (Bs (c:=(decide (0<cy))) O O (CB (a:=0) (b:=cy))) O (AI O) (AH (v:=(Value.bool (decide (0<cy)))) (AJ O O) O (OkL.nil (OkQ.mid (sS O (sS O (sS O (sS O (sS O (sS O (sS O (sS O (sS O (sS O (sS O (sS (by first|rfl|(rw [hg1];rfl)|rw [hg1]) (sS (by first|rfl|(rw [hg1];rfl)|rw [hg1]) (sN)))))))))))))) (List.Sublist.refl _)))))
  refine OkL.nil (OkQ.subF (sL [0,1,4,5,6,7,8,29] O) (OkQ.then_ ?_))
  refine OkC.cond O (λhc1=>?_) (λhc1=>?_)
  ·simp only [Bool.and_eq_true,Bool.or_eq_true,Bool.and_eq_false_iff,Bool.or_eq_false_iff,Bool.not_eq_true',Bool.not_eq_false',decide_eq_true_eq,decide_eq_false_iff_not] at hc1
   refine OkC.skip (q1 (OkC.block (OkC.seq (Cd [(0,true),(1,true),(2,true),(3,true),(4,true),(5,true),(6,true),(7,true),(8,true),(9,true),(10,true),(11,true),(15,true),(12,false),(13,true),(14,true),(16,true),(17,true)] sr (BV O (BV O (BV O (Al O (AX (c:=((i+k:Nat):Int)) O O (AR (a:=i) (b:=k) Z)) (Al (v:=(pP (pB (some ⟨b1,0,none⟩)) (pO (some ⟨b1,0,none⟩)+(i+k)*1))) O (AL (j:=i+k) O O ho_b1.row underlying79 sizeOf3 O Z) (Al O (Dt (v:=(vN (es.getD (i+k) 0))) (i:=0) O O ho_b1 (by simp [B7];omega) (ho_b1.row.ne Z) BL (DO (ds:=es) (j:=i+k) Z)) (BV O ?_)))))))))))
   refine BV O (Al (v:=(pP (pB a.p) (pO a.p+i*1))) O (AL (j:=i) O O a.ok underlying79 sizeOf3 O Z) (Al O (AW (v:=(vN ((dg a.x).getD i 0))) (i:=1) O O (a.ok.ne Z) BL (DO (ds:=dg a.x) (j:=i) Z)) (BV O (BV O (BV O (OkE.imp O ?_))))))
   have hz1:=F1 b.x k
   refine Ce call212 (λw hw=>Mo b k Z w (hw.holds (i:=2) O)) O (OkE.back sr (Al O (CN (c:=((((dg a.x).getD i 0)*((dg b.x).getD k 0):Nat):Int)) O O (CT (a:=(dg a.x).getD i 0) (b:=(dg b.x).getD k 0) Z)) (Al O (AX (c:=(((es.getD (i+k) 0)+(((dg a.x).getD i 0)*((dg b.x).getD k 0)):Nat):Int)) O O (AR (a:=es.getD (i+k) 0) (b:=((dg a.x).getD i 0)*((dg b.x).getD k 0)) Z)) (Al O (AX (c:=((((es.getD (i+k) 0)+(((dg a.x).getD i 0)*((dg b.x).getD k 0)))+cy:Nat):Int)) O O (AR (a:=(es.getD (i+k) 0)+(((dg a.x).getD i 0)*((dg b.x).getD k 0))) (b:=cy) Z)) (pS' O (OkE.nil (OkQ.subF (sL [0,1,4,5,6,7,8,9] O) (q2 (AM O (AM O (AM O ?_)))))))))))
   refine AH (AX (c:=((i+k:Nat):Int)) O O (AR (a:=i) (b:=k) Z)) O (AM O (AH (Dy (c:=(((((es.getD (i+k) 0)+(((dg a.x).getD i 0)*((dg b.x).getD k 0)))+cy)%10000:Nat):Int)) O O Z (Oo (a:=((es.getD (i+k) 0)+(((dg a.x).getD i 0)*((dg b.x).getD k 0)))+cy) (b:=10000))) O (AH (v:=(pP (pB (some ⟨b1,0,none⟩)) (pO (some ⟨b1,0,none⟩)+(i+k)*1))) (AL (j:=i+k) O O ho_b1.row underlying79 sizeOf3 O Z) O (OkL.storeRow0 (j:=i+k) (v:=(vN ((((es.getD (i+k) 0)+(((dg a.x).getD i 0)*((dg b.x).getD k 0)))+cy)%10000))) O O ho_b1 (by simp [B7];omega) Z O sizeOf3 O (QW _ _ _) (OkL.nil (OkQ.subF (sL [0,1,4,5,6,7,8,9] O) (OkQ.then_ (OkC.region (AM O (AH (Er (c:=(((((es.getD (i+k) 0)+(((dg a.x).getD i 0)*((dg b.x).getD k 0)))+cy)/10000:Nat):Int)) O O Z (Em (a:=((es.getD (i+k) 0)+(((dg a.x).getD i 0)*((dg b.x).getD k 0)))+cy) (b:=10000) Z)) O (asg' O ?_)))))))))))
   refine OkL.nil (OkQ.subF (sL [0,1,4,5,6,7,8,9] O) (OkQ.in_normal (OkQ.then_ (OkC.region (AM O (AH (AX (c:=((k+1:Nat):Int)) O O (AR (a:=k) (b:=1) Z)) O (asg' O (OkL.nil (OkQ.subF (sL [0,1,4,5,6,7,8,9] O) ?_)))))))))
   have hnx:k+1<=(dg b.x).length\/k+1=(dg b.x).length+1/\(es.getD (i+k) 0+(dg a.x).getD i 0*(dg b.x).getD k 0+cy)/10000=0:=by
            by_cases hkb:k<(dg b.x).length
            ·exact .inl Z
            ·obtain rfl:k=(dg b.x).length:=by omega
             refine .inr ⟨rfl,?_⟩
             rw [Cj Z,CM] at hve
             have h9:=Sm (hV:=Vb a.x b.x i hv) hve
             rw [DW (show ¬(dg b.x).length<(dg b.x).length by omega),Nat.mul_zero,Nat.add_zero]
             omega
   exact OkQ.round3 ((((es.getD (i+k) 0)+(((dg a.x).getD i 0)*((dg b.x).getD k 0)))+cy)/10000) (k+1) (es.set (i+k) ((es.getD (i+k) 0+(dg a.x).getD i 0*(dg b.x).getD k 0+cy)%10000)) (⟨Qf hee Z,by simpa using hke,Z,hnx,by rw [Bm];exact PA Z hve O⟩) Z (sF O) sr
  ·simp only [Bool.and_eq_true,Bool.or_eq_true,Bool.and_eq_false_iff,Bool.or_eq_false_iff,Bool.not_eq_true',Bool.not_eq_false',decide_eq_true_eq,decide_eq_false_iff_not] at hc1
   have hve2:val10 es=val10 ((dg a.x).take (i+1))*b.x:=by
        rw [show cy=0 by omega,Cj Z,CM,hv,Nat.mul_zero,Nat.add_zero] at hve
        rw [hve,Bm,Nat.add_mul]
   exact OkC.exit (OkQ.then_exit (OkQ.round3_exit (OkQ.in_exit (OkQ.in_normal (OkQ.then_ (OkC.region (AM O (AH (AX (c:=((i+1:Nat):Int)) O O (AR (a:=i) (b:=1) Z)) O (asg' O (OkL.nil (OkQ.subF (sL [0,1,4,5,6,7,8] O) (OkQ.round2 (i+1) es (⟨hee,hke,Z,hve2⟩) Z (sF O) sr))))))))))))
 ·replace hc0:=of_decide_eq_false hc0
  have hfin:val10 ds=a.x*b.x:=by rw [hv,Cj Z,CM]
  exact OkC.exit (OkQ.then_exit (OkQ.round2_exit (OkQ.in_exit (q2 (AM O (Ce (args:=[(Value.slice (some ⟨b1,0,none⟩) (((dg a.x).length)+((dg b.x).length)) (((dg a.x).length)+((dg b.x).length)))]) (v:=(Value.slice (some ⟨b1,0,none⟩) ((dg (val10 ds)).length) (((dg a.x).length)+((dg b.x).length)))) call213 (λw hw=>(by have h9:=GH (some ⟨b1,0,none⟩) (((dg a.x).length)+((dg b.x).length)) ds hdd (by rw [<-hk];exact ho_b1.row) Z w (JM (hw.holds (i:=0) O) ho_b1 hk);rw [<-hk] at h9;exact h9)) O (asg' O (OkL.nil (OkQ.subF (sL [0,1,4,5,6] O) (OkQ.then_ (OkC.ret (ret_one O (rd_tmp (v:=(Value.slice (some ⟨b1,0,none⟩) ((dg (val10 ds)).length) (((dg a.x).length)+((dg b.x).length)))) O) (λw hw=>UZ hw (i:=0) O ho_b1 hk (by rw [<-hfin];exact FZ hdd) (by rw [hfin]))))))))))))))
end
section
set_option maxRecDepth 100000
theorem VM {a b:Nat} (h:b<a):0<Cu a b:=by unfold Cu;rw [if_neg Z,if_neg Z];omega
theorem TM {a b:Nat} (h:¬Cu a b<=0):b<a:=by
 unfold Cu at h
 split at h
 ·omega
 ·split at h<;>omega
theorem P_ (a b:NV) (hb0:0<b.x) (hla:(dg a.x).length<=274877906944) (hlb:(dg b.x).length<=274877906944) (w:World) (ha:Holds w (nA a)) (hb:Holds w (nA b)):Calls prog 209 #[(nV a),(nV b)] w (I5 w [] [a.p.map (·.block)] (a.x/b.x) (a.x%b.x)):=by
 obtain ⟨k,hk⟩:∃k,k=(dg b.x).length-3:=⟨_,rfl⟩
 obtain ⟨tp,htp⟩:∃tp,tp=b.x/10000^k:=⟨_,rfl⟩
 have htb:=Ws b.x
 have htp1:=O3 hb0
 rw [<-hk] at htb htp1
 rw [<-htp] at htp1
 have htb2:=htb
 rw [<-htp] at htb2
 have hlb1:=(JO hb0).2
 refine AY (args:=[(nV a),(nV b)]) (L:=[nA a,nA b]) func209 O O (AI O) (Bt O ha (Bt O hb (Aj))) (OkC.subF (sL [0,1] O) (q4 (asg' O (asg' O (OkL.nil (q1 (q4 (AM O (AM O (Ce call211 (λw hw=>Mf a b (by first|omega|(dsimp only;omega)) (by first|omega|(dsimp only;omega)) w (hw.holds (i:=0) O) (hw.holds (i:=1) O)) O (AH (Ae (c:=(decide ((Cu a.x b.x)<(0:Int)))) O O O) O ?_)))))))))))
 refine OkL.nil (OkQ.subF (sL [0,1,4,5,18] O) (OkQ.then_ ?_))
 refine OkC.cond O (λhc0=>?_) (λhc0=>?_)
 ·replace hc0:=of_decide_eq_true hc0
  rw [E8] at hc0
  exact q4 (AM O (asg' O (asg' O (OkL.nil (OkQ.subF (sL [0,1,4,5] O) (OkQ.then_ (OkC.ret (OkQ.then_ret (C_ O (rd_tmp (v:=(Value.slice none 0 0)) O) (rd_tmp (v:=(nV a)) O) (λw hw=>(by rw [Nat.mod_eq_of_lt hc0];exact XR hw (Nat.div_eq_of_lt hc0) (k:=0) O)))))))))))
 ·replace hc0:=of_decide_eq_false hc0
  rw [E8] at hc0
  have hlab:=Hw (Nat.le_of_not_lt hc0)
  obtain ⟨m,hm1⟩:∃m,m=(dg a.x).length-(dg b.x).length+1:=⟨_,rfl⟩
  have hm:m+(dg b.x).length=(dg a.x).length+1:=by omega
  refine OkC.skip (q2 (AM O (AH (v:=(vN ((dg b.x).length))) (AD O underlying79) O (AH (BI (c:=((((dg b.x).length:Nat):Int)-3)) O O (BE Z Z)) O (AH (EQ (c:=((k:Nat):Int)) O O (by split<;>omega)) O (asg' O (q3 (sL [0,1,4,5,6] O) (AM O (AM O (Ce (args:=[(nV b),(vN k)]) (v:=(vN tp)) call245 (λw hw=>(by rw [htp];exact Nu b k Z (by first|omega|(dsimp only;omega)) (by first|omega|(dsimp only;omega)) w (hw.holds (i:=1) O))) O (asg' O ?_)))))))))))
  refine q3 (sL [0,1,4,5,6,7] O) (AM O (AH (v:=(vN ((dg a.x).length))) (AD O underlying79) O (AM O (AH (v:=(vN ((dg b.x).length))) (AD O underlying79) O (AH (BI (c:=(((m:Nat):Int)-1)) O O (by rw [BE Z Z];omega)) O (asg' O (q3 (sL [0,1,4,5,6,7,8] O) (AM O (AH (AX (c:=((m:Nat):Int)) O O (by rw [BE Z Z];omega)) O (OkL.makeDig (m:=m) Yi O O Z O O λb1 ho_b1=>asg' O ?_))))))))))
  refine q3 (sL [0,1,4,5,6,7,8,9] O) (OkL.openV (V:=λb2=>(Value.slice (some ⟨b2,0,none⟩) 0 0)) (T:=3) (cs:=[]) (AP O) (Gq underlying79 sizeOf3) O (AI O) λb2=>OkL.asRow0 (z:=1) 0 O Z λho_b2=>AM O (AM O (AH (AX (c:=((m:Nat):Int)) O O (by rw [BE Z Z];omega)) O (AH (v:=(Value.slice (YU a.p m a.c 1) ((dg a.x).length-m) (a.c-m))) (Nc (i:=m) O O underlying79 sizeOf3 Z a.ok.le) O (OkL.appendS0 (cs2:=dgL (([])++(((dg a.x)).drop m))) (news:=dgL (((dg a.x)).drop m)) Te O ho_b2 O O (YK (k:=2) O a.ok Z) (by simp [B7]) (QQ _) (G0 Z) Z (by rw [En];rfl) O λp_1 c_1 ho_1=>OkL.frozenD 0 (X:=a.x/10000^m) O ho_1 (by simp) (by rw [<-Pq];exact (List.take_length).symm) O λhok0 hloc0=>OkL.retell (k:=40) (u:=(Value.slice p_1 ((dg (a.x/10000^m)).length) c_1)) O (by rw [show 0+((dg a.x).length-m)=(dg (a.x/10000^m)).length by rw [<-Pq];simp]) (asg' O (q6 (sL [0,1,4,5,6,7,8,9,10] O) ?_)))))))
  refine OkC.block ?_
  refine OkC.lp5 (tg λ(j:Nat) (qs:List Nat) (R:Nat) (p:Option Addr) (c:Nat)=>j<=m/\Ih qs/\m=qs.length/\val10 qs=10000^j*(a.x/10000^j/b.x)/\R=a.x/10000^j%b.x/\Av p (dg R).length c/\Dg w [] p) (tg λ(j:Nat) (qs:List Nat) (R:Nat) (p:Option Addr) (c:Nat)=>[(0,(nV a)),(1,(nV b)),(4,(Value.slice none 0 0)),(5,(Value.slice none 0 0)),(6,(vN k)),(7,(vN tp)),(9,(Value.slice (some ⟨b1,0,none⟩) m m)),(8,(vI (((j:Nat):Int)-1))),(10,(Value.slice p ((dg R).length) c))]) (tg λ(j:Nat) (qs:List Nat) (R:Nat) (p:Option Addr) (c:Nat)=>[AE p (dgL (dg R)),rowW (some ⟨b1,0,none⟩) 3 1 m m (dgL qs),nA a,nA b]) (tg λ(j:Nat) (qs:List Nat) (R:Nat) (p:Option Addr) (c:Nat)=>j) m (List.replicate m 0) (a.x/10000^m) p_1 c_1 (⟨Nat.le_refl _,LY _,by simp,by rw [Il,Nat.div_eq_of_lt (OE hb0 hm),Nat.mul_zero],(Nat.mod_eq_of_lt (OE hb0 hm)).symm,hok0,hloc0⟩) (sF O) sr (λj qs R p c hJ=>?_)
  obtain ⟨hj,hdd,hk,hv,hR,hok,hloc⟩:=hJ
  refine OkC.seq (q4 (AM O (AH (Bx (c:=(decide ((0:Int)<=(((j:Nat):Int)-1)))) O O O) O (OkL.nil (OkQ.subF (sL [0,1,4,5,6,7,9,8,10,42] O) (OkQ.then_ ?_))))))
  refine OkC.cond O (λhc1=>?_) (λhc1=>?_)
  ·replace hc1:=of_decide_eq_true hc1
   have hj1:1<=j:=by omega
   obtain ⟨R1,hR1⟩:∃R1,R1=10000*R+(dg a.x).getD (j-1) 0:=⟨_,rfl⟩
   have hRb:R<b.x:=by rw [hR];exact Nat.mod_lt _ hb0
   have hd1:=F1 a.x (j-1)
   have hR1b:R1<10000*b.x:=by omega
   have hA:=Pj a.x (j-1)
   rw [Nat.sub_add_cancel hj1] at hA
   have hst:=OZ hb0 hA hR hR1
   have hR1l:(dg R1).length<=(dg b.x).length+1:=by refine Fl (Nat.lt_of_lt_of_le hR1b ?_);rw [Nat.pow_succ];have h8:=Cm (D5 b.x);rw [CM] at h8;omega
   have hRl:=Hw (Nat.le_of_lt hRb)
   have hd9:Ih ([(dg a.x).getD (j-1) 0]++dg R):=λe he=>(List.mem_append.1 he).elim (λh=>by rw [List.mem_singleton.1 h];omega) (λh=>D5 R e h)
   have hv9:val10 ([(dg a.x).getD (j-1) 0]++dg R)=R1:=by rw [List.singleton_append,val10,CM];omega
   have hk9:1+(dg R).length=([(dg a.x).getD (j-1) 0]++dg R).length:=by simp [Nat.add_comm]
   obtain ⟨f,hf⟩:∃f,f=R1/10000^k:=⟨_,rfl⟩
   have hfb:=RD hR1b htb
   rw [<-hf] at hfb
   obtain ⟨q,hq⟩:∃q,q=R1/b.x:=⟨_,rfl⟩
   have hq1:q<=9999:=by have:=(Nat.div_lt_iff_lt_mul hb0).2 hR1b;omega
   have hqR:b.x*q<=R1:=by rw [hq];exact Nat.mul_div_le _ _
   have hlow:f/(tp+1)<=q:=by rw [hf,htp,hq];exact Wu hb0
   have hhigh:q<=f/tp:=by rw [hf,htp,hq];exact UY (by rw [<-htp];exact htp1)
   have hf2:f/(tp+1)<=f:=Nat.div_le_self _ _
   refine OkC.retell (k:=8) (u:=(vN (j-1))) O (by show Value.int _ _=Value.int _ _;congr 1;omega) (OkC.skip (q1 (OkC.block (q4 (AM O (AM O (AH (v:=(pP (pB a.p) (pO a.p+(j-1)*1))) (AL (j:=j-1) O O a.ok underlying79 sizeOf3 O Z) O (AH (AW (v:=(vN ((dg a.x).getD (j-1) 0))) (i:=2) O O (a.ok.ne Z) BL (DO (ds:=dg a.x) (j:=j-1) Z)) O (OkL.openV (V:=λb3=>(Value.slice (some ⟨b3,0,none⟩) 1 1)) (T:=3) (cs:=[(vN ((dg a.x).getD (j-1) 0))]) (AP O) (Ao (cs:=[(vN ((dg a.x).getD (j-1) 0))]) (pv:=[(0,(vN ((dg a.x).getD (j-1) 0)))]) underlying79 sizeOf3 zeroValue3 (by decide) (by decide) O (by kernel_rfl)) O (AI O) λb3=>OkL.asRow0 (z:=1) 1 O Z λho_b3=>AM O ?_)))))))))
   refine OkL.appendS0 (cs2:=dgL (([(dg a.x).getD (j-1) 0])++(dg R))) (news:=dgL (dg R)) Te O ho_b3 O O (L9 (k:=1) O hok) (by simp [B7]) (QQ _) (G0 Z) Z (by rw [En];rfl) O λp_2 c_2 ho_2=>Ce (args:=[(Value.slice p_2 (1+((dg R).length)) c_2)]) (v:=(Value.slice p_2 ((dg R1).length) c_2)) call213 (λw hw=>(by have h9:=GH p_2 c_2 (([(dg a.x).getD (j-1) 0])++(dg R)) hd9 (by rw [<-hk9];exact ho_2.row) (by simp;omega) w (JM (hw.holds (i:=0) O) ho_2 hk9);rw [hv9,<-hk9] at h9;exact h9)) O (OkL.frozenD 0 (X:=R1) O ho_2 hk9 (by rw [<-hv9];exact FZ hd9) O λhok1 hloc1=>asg' O (q3 (sL [0,1,4,5,6,7,9,8,10] O) (AM O (AM O (Ce (args:=[(Value.slice p_2 ((dg R1).length) c_2),(vN k)]) (v:=(vN f)) call245 (λw hw=>(by rw [hf];exact Nu (NV.mk p_2 c_2 R1 hok1) k Z (by first|omega|(dsimp only;omega)) (by first|omega|(dsimp only;omega)) w (hw.holds (i:=0) O))) O (asg' O (q6 (sL [0,1,4,5,6,7,9,8,10,11] O) (Cd [(0,true),(1,true),(2,true),(3,true),(4,true),(5,true),(6,true),(7,true),(8,true),(9,true)] sr (BV O ?_)))))))))
   refine BV O (Al O (AX (c:=((tp+1:Nat):Int)) O O (AR (a:=tp) (b:=1) Z)) (Al O (Er (c:=((f/(tp+1):Nat):Int)) O O Z (Em (a:=f) (b:=tp+1) Z)) (BV O (BV O (Al O (Er (c:=((f/tp:Nat):Int)) O O Z (Em (a:=f) (b:=tp) Z)) (Al O (FQ (c:=((min (f/tp) 9999:Nat):Int)) O O (by split<;>omega)) (pS' O (pS' O (OkE.nil (OkQ.subF (sL [0,1,4,5,6,7,9,8,10,12,13] O) (q1 ?_)))))))))))
   refine OkC.block ?_
   refine OkC.lp2 (tg λ(lo:Nat) (hi:Nat)=>lo<=q/\q<=hi/\hi<=9999) (tg λ(lo:Nat) (hi:Nat)=>[(0,(nV a)),(1,(nV b)),(4,(Value.slice none 0 0)),(5,(Value.slice none 0 0)),(6,(vN k)),(7,(vN tp)),(9,(Value.slice (some ⟨b1,0,none⟩) m m)),(8,(vN (j-1))),(10,(Value.slice p_2 ((dg R1).length) c_2)),(12,(vN lo)),(13,(vN hi))]) (tg λ(lo:Nat) (hi:Nat)=>[AE p_2 (dgL (dg R1)),AE p (dgL (dg R)),rowW (some ⟨b1,0,none⟩) 3 1 m m (dgL qs),nA a,nA b]) (tg λ(lo:Nat) (hi:Nat)=>hi-lo) (f/(tp+1)) (min (f/tp) 9999) (⟨hlow,Z,Z⟩) (sF O) sr (λlo hi hJ=>?_)
   obtain ⟨hlo,hhi,hh9⟩:=hJ
   refine OkC.seq (q4 (AM O (AM O (AH (Ae (c:=(decide (lo<hi))) O O (CB (a:=lo) (b:=hi))) O (OkL.nil (OkQ.subF (sL [0,1,4,5,6,7,9,8,10,12,13,66] O) (OkQ.then_ ?_)))))))
   refine OkC.cond O (λhc2=>?_) (λhc2=>?_)
   ·replace hc2:=of_decide_eq_true hc2
    refine OkC.skip (OkQ.then_ (OkC.block (q4 (AM O (AM O (AH (AX (c:=((lo+hi:Nat):Int)) O O (AR (a:=lo) (b:=hi) Z)) O (AH (AX (c:=(((lo+hi)+1:Nat):Int)) O O (AR (a:=lo+hi) (b:=1) Z)) O (AH (Er (c:=((((lo+hi)+1)/2:Nat):Int)) O O Z (Em (a:=(lo+hi)+1) (b:=2) Z)) O (asg' O (q3 (sL [0,1,4,5,6,7,9,8,10,12,13,14] O) (AM O ?_)))))))))))
    refine AM O (AH (Aw (c:=((((lo+hi)+1)/2:Nat):Int)) O underlying3 underlying69 (BK Z)) O (OkL.callN (args:=[(vK .u64 (((lo+hi)+1)/2))]) call207 (λw hw=>PP (((lo+hi)+1)/2) Z w) Od O O O λv1 hv1 lv1=>?_))
    have hlv1:(dg v1.x).length<=1:=Fl Z
    refine OkL.callN (args:=[(nV b),(nV v1)]) call162 (λw hw=>Mc b v1 (by first|omega|(dsimp only;omega)) (by first|omega|(dsimp only;omega)) w (hw.holds (i:=5) O) (hw.holds (i:=0) O)) Od O O O λv2 hv2 lv2=>?_
    have hlv2:(dg v2.x).length<=(dg b.x).length+1:=by refine Fl ?_;rw [hv2,Nat.pow_succ];have h8:=Cm (D5 b.x);rw [CM] at h8;exact Nat.mul_lt_mul_of_lt_of_le h8 Z Z
    refine AM O (Ce call211 (λw hw=>Mf v2 (NV.mk p_2 c_2 R1 hok1) (by first|omega|(dsimp only;omega)) (by first|omega|(dsimp only;omega)) w (hw.holds (i:=0) O) (hw.holds (i:=2) O)) O (AH (Fx (c:=(decide ((Cu v2.x R1)<=(0:Int)))) O O O) O (OkL.nil (OkQ.subF (sL [0,1,4,5,6,7,9,8,10,12,13,14,79] O) (OkQ.then_ ?_)))))
    refine OkC.cond O (λhc3=>?_) (λhc3=>?_)
    ·replace hc3:=of_decide_eq_true hc3
     have hmq:(lo+hi+1)/2<=q:=by rw [hq];refine (Nat.le_div_iff_mul_le hb0).2 ?_;rw [Nat.mul_comm,<-hv1,<-hv2];exact Nat.le_of_not_lt λh=>by have h8:=VM h;omega
     exact OkC.region (AM O (asg' O (OkL.nil (OkQ.subF (sL [0,1,4,5,6,7,9,8,10,12,13,14] O) (OkQ.in_normal (OkQ.round2 (((lo+hi)+1)/2) hi (⟨Z,Z,Z⟩) Z (sF O) (sl (sl sr))))))))
    ·replace hc3:=of_decide_eq_false hc3
     have hmq:q<(lo+hi+1)/2:=by rw [hq];refine (Nat.div_lt_iff_lt_mul hb0).2 ?_;rw [Nat.mul_comm,<-hv1,<-hv2];exact TM Z
     exact OkC.region (AM O (AH (BI (c:=(((((lo+hi)+1)/2)-1:Nat):Int)) O O (Br (a:=((lo+hi)+1)/2) (b:=1) Z Z)) O (asg' O (OkL.nil (OkQ.subF (sL [0,1,4,5,6,7,9,8,10,12,13,14] O) (OkQ.in_normal (OkQ.round2 lo ((((lo+hi)+1)/2)-1) (⟨Z,Z,Z⟩) Z (sF O) (sl (sl sr)))))))))
   ·replace hc2:=of_decide_eq_false hc2
    have hlq:lo=q:=by omega
    refine OkC.exit (OkQ.then_exit (OkQ.round2_exit (OkQ.in_exit (q2 (AM O (AM O (AM O (AH (v:=(pP (pB (some ⟨b1,0,none⟩)) (pO (some ⟨b1,0,none⟩)+(j-1)*1))) (AL (j:=j-1) O O ho_b1.row underlying79 sizeOf3 O Z) O (OkL.storeRow2 (j:=j-1) (v:=(vN lo)) O O ho_b1 (by simp [B7];omega) Z O sizeOf3 O (QW _ _ _) (OkL.nil (OkQ.subF (sL [0,1,4,5,6,7,9,8,10,12,13] O) ?_)))))))))))
    refine OkQ.then_ (OkC.region (AM O (AM O (AM O (AH (Aw (c:=((lo:Nat):Int)) O underlying3 underlying69 (BK Z)) O (OkL.callN (args:=[(vK .u64 lo)]) call207 (λw hw=>PP lo Z w) Od O O O λv3 hv3 lv3=>?_))))))
    have hlv3:(dg v3.x).length<=1:=Fl Z
    refine OkL.callN (args:=[(nV b),(nV v3)]) call162 (λw hw=>Mc b v3 (by first|omega|(dsimp only;omega)) (by first|omega|(dsimp only;omega)) w (hw.holds (i:=5) O) (hw.holds (i:=0) O)) Od O O O λv4 hv4 lv4=>?_
    have hlv4:(dg v4.x).length<=(dg b.x).length+1:=by refine Fl ?_;rw [hv4,Nat.pow_succ];have h8:=Cm (D5 b.x);rw [CM] at h8;exact Nat.mul_lt_mul_of_lt_of_le h8 Z Z
    have hv4R:v4.x<=R1:=by rw [hv4,hv3,hlq];exact hqR
    exact OkL.callN (args:=[(Value.slice p_2 ((dg R1).length) c_2),(nV v4)]) call210 (λw hw=>Pw (NV.mk p_2 c_2 R1 hok1) v4 hv4R (by first|omega|(dsimp only;omega)) w (hw.holds (i:=2) O) (hw.holds (i:=0) O)) Od O O O λv5 hv5 lv5=>asg' O (OkL.nil (OkQ.subF (sL [0,1,4,5,6,7,9,8,10,12,13] O) (OkQ.in_normal (OkQ.then_ (OkC.region (AM O (AH (BI (c:=(((j-1:Nat):Int)-1)) O O (BE Z Z)) O (asg' O (OkL.nil (OkQ.subF (sL [0,1,4,5,6,7,9,8,10,12,13] O) (OkQ.round5 (j-1) (qs.set (j-1) lo) v5.x v5.p v5.c (⟨Z,Qf hdd Z,by simpa using hk,Rv hdd hk hj1 hj hv (by rw [hlq,hq];exact hst.1),by rw [hv5,hv4,hv3,hlq,hst.2,hq];exact Nat.sub_eq_of_eq_add (Nat.mod_add_div _ _).symm,v5.ok,lv5⟩) Z (sF O) (sk (sl (sl (sl (sl sr))))))))))))))))
  ·replace hc1:=of_decide_eq_false hc1
   obtain rfl:j=0:=by omega
   have hfin:val10 qs=a.x/b.x:=by rw [hv];simp
   have hfin2:R=a.x%b.x:=by rw [hR];simp
   refine OkC.exit (OkQ.then_exit (OkQ.round5_exit (OkQ.in_exit (q2 (AM O (Ce (args:=[(Value.slice (some ⟨b1,0,none⟩) m m)]) (v:=(Value.slice (some ⟨b1,0,none⟩) ((dg (val10 qs)).length) m)) call213 (λw hw=>(by have h9:=GH (some ⟨b1,0,none⟩) m qs hdd (by rw [<-hk];exact ho_b1.row) Z w (JM (hw.holds (i:=1) O) ho_b1 hk);rw [<-hk] at h9;exact h9)) O (AM O (asg' O (asg' O (OkL.nil (OkQ.subF (sL [0,1,4,5,6,7,9,8,10] O) ?_)))))))))))
   exact OkQ.then_ (OkC.ret (C_ O (rd_tmp (v:=(Value.slice (some ⟨b1,0,none⟩) ((dg (val10 qs)).length) m)) O) (rd_tmp (v:=(Value.slice p ((dg R).length) c)) O) (λw hw=>Yr hw (i:=1) (k:=0) O ho_b1 hk (by rw [<-hfin];exact FZ hdd) (by rw [hfin]) (by rw [<-hfin2];rfl) (by rw [<-hfin2];exact hok) hloc (by rw [<-hfin2]))))
theorem Wi (a b:NV) (hla:(dg a.x).length<=274877906944) (hlb:(dg b.x).length<=274877906944) (w:World) (ha:Holds w (nA a)) (hb:Holds w (nA b)):Calls prog 208 #[(nV a),(nV b)] w (GP w [a.p.map (·.block),b.p.map (·.block)] (Nat.gcd a.x b.x)):=by
 refine AY (args:=[(nV a),(nV b)]) (L:=[nA b,nA a]) func208 O O (AI O) (Bt O hb (Bt O ha (Aj))) (OkC.subF (sL [0,1] O) (q4 (asg' O (OkL.nil (q1 (OkC.block ?_))))))
 refine OkC.lp2 (tg λ(u:NV) (v:NV)=>Nat.gcd u.x v.x=Nat.gcd a.x b.x/\(dg u.x).length<=274877906944/\(dg v.x).length<=274877906944/\Dg w [a.p.map (·.block),b.p.map (·.block)] u.p/\Dg w [a.p.map (·.block),b.p.map (·.block)] v.p) (tg λ(u:NV) (v:NV)=>[(4,(Value.slice none 0 0)),(0,(nV u)),(1,(nV v))]) (tg λ(u:NV) (v:NV)=>[nA v,nA u]) (tg λ(u:NV) (v:NV)=>v.x) a b (⟨rfl,hla,hlb,λs e=>.inr (by rw [<-e];exact List.mem_cons_self),λs e=>.inr (by rw [<-e];exact List.mem_cons_of_mem _ List.mem_cons_self)⟩) (sF O) sr (λu v hJ=>?_)
 obtain ⟨hg,hlu,hlv,hu,hv⟩:=hJ
 refine OkC.seq (q4 (AM O (AH (v:=(vN ((dg v.x).length))) (AD O underlying79) O (AH (Bs (c:=(decide (0<((dg v.x).length)))) O O (CB (a:=0) (b:=(dg v.x).length))) O (OkL.nil (OkQ.subF (sL [4,0,1,9] O) (OkQ.then_ ?_)))))))
 refine OkC.cond O (λhc0=>?_) (λhc0=>?_)
 ·replace hc0:=of_decide_eq_true hc0
  have hv0:0<v.x:=by
     rcases Nat.eq_zero_or_pos v.x with h|h
     ·rw [h] at hc0;exact absurd hc0 (by decide)
     ·exact h
  refine OkC.skip (OkQ.then_ (OkC.block (q4 (AM O (AM O (OkL.callNN (args:=[(nV u),(nV v)]) call209 (λw hw=>P_ u v hv0 hlu hlv w (hw.holds (i:=1) O) (hw.holds (i:=0) O)) Od (Zy (y:=nA u) 1 O O Od) O O O λq1 r1 hq1 hr1 lq1 lr1=>AM O (AH (AV (v:=(nV q1)) O O) O (AH (AV (v:=(nV r1)) O O) O (asg' O (asg' O ?_))))))))))
  exact q3 (sL [4,0,1,6] O) (AM O (asg' O (OkL.nil (OkQ.subF (sL [4,0,1,6] O) (OkQ.then_ (OkC.region (AM O (asg' O (OkL.nil (OkQ.subF (sL [4,0,1] O) (OkQ.in_normal (OkQ.round2 v r1 (⟨by rw [<-hg,hr1,Nat.gcd_comm,<-Nat.gcd_rec,Nat.gcd_comm],hlv,Nat.le_trans (Hw (by rw [hr1];exact Nat.le_of_lt (Nat.mod_lt _ hv0))) hlv,hv,lr1.mono (λs hs c e=>hu c (by rw [List.mem_singleton.1 hs] at e;exact e))⟩) (by rw [hr1];exact Nat.mod_lt _ hv0) (sF O) (sl (sk (sk (sl sr))))))))))))))))
 ·replace hc0:=of_decide_eq_false hc0
  have hv0:v.x=0:=by
     rcases Nat.eq_zero_or_pos v.x with h|h
     ·exact h
     ·have:=(JO h).2;omega
  rw [hv0,Nat.gcd_zero_right] at hg
  exact OkC.exit (OkQ.then_exit (OkQ.round2_exit (OkQ.in_exit (q2 (AM O (asg' O (OkL.nil (OkQ.subF (sL [4,0,1] O) (OkQ.then_ (OkC.ret (ret_one O (rd_tmp (v:=(nV u)) O) (λw hw=>⟨u,hg,rfl,hw.out,hw.holds (i:=1) O,hu⟩))))))))))))
end
section
set_option maxRecDepth 100000
theorem SI (a:NV) (hla:(dg a.x).length<=549755813888) (w:World) (ha:Holds w (nA a)):Calls prog 146 #[(nV a)] w (Ah w (Value.string (txB (Lib.decDigits a.x)))):=by
 refine AY (args:=[(nV a)]) (L:=[nA a]) func146 O O (AI O) (Bt O ha (Aj)) (OkC.subF (sL [0] O) (q4 (asg' O (OkL.nil (q1 (q4 (AM O (AH (v:=(vN ((dg a.x).length))) (AD O underlying79) O (AH (BG (c:=(decide (((dg a.x).length)=0))) O O (K7 (a:=(dg a.x).length) (b:=0))) O (OkL.nil (OkQ.subF (sL [0,2,9] O) ?_)))))))))))
 refine OkQ.then_ ?_
 refine OkC.cond O (λhc0=>?_) (λhc0=>?_)
 ·replace hc0:=of_decide_eq_true hc0
  have hx0:a.x=0:=by rcases Nat.eq_zero_or_pos a.x with h|h;exact h;have:=(JO h).2;omega
  exact q4 (asg' O (OkL.nil (OkQ.then_ (OkC.ret (OkQ.then_ret (ret_one O (rd_tmp (v:=(Value.string (ByteArray.mk #[48]))) O) (λw hw=>⟨by rw [hx0,Js];rfl,hw.out⟩)))))))
 ·replace hc0:=of_decide_eq_false hc0
  have hx0:0<a.x:=by rcases Nat.eq_zero_or_pos a.x with h|h;(exact absurd (by rw [h];rfl) hc0);exact h
  refine OkC.skip (q2 (asg' O (OkL.nil (q1 (q4 (asg' O (OkL.nil (OkQ.then_ (OkC.block ?_)))))))))
  refine OkC.lp2 (tg λ(i:Nat) (s:List UInt8)=>i<(dg a.x).length/\s=FN (4*i) a.x\/i=(dg a.x).length/\s=Lib.decDigits a.x) (tg λ(i:Nat) (s:List UInt8)=>[(0,(nV a)),(2,(Value.string (ByteArray.mk #[]))),(4,(vN i)),(3,(Value.string (txB s)))]) (tg λ(i:Nat) (s:List UInt8)=>[nA a]) (tg λ(i:Nat) (s:List UInt8)=>(dg a.x).length-i) 0 ([]) (.inl ⟨Z,rfl⟩) (sF O) sr (λi s hJ=>?_)
  have hj:=hJ
  refine OkC.seq (q4 (AM O (AM O (AH (v:=(vN ((dg a.x).length))) (AD O underlying79) O (AH (Ae (c:=(decide (i<((dg a.x).length)))) O O (CB (a:=i) (b:=(dg a.x).length))) O (OkL.nil (OkQ.subF (sL [0,2,4,3,13] O) (OkQ.then_ ?_))))))))
  refine OkC.cond O (λhc1=>?_) (λhc1=>?_)
  ·replace hc1:=of_decide_eq_true hc1
   have hs:s=FN (4*i) a.x:=(hj.resolve_right Z).2
   have gd:=F1 a.x i
   refine OkC.skip (q1 (OkC.block (q4 (AM O (AM O (AH (v:=(pP (pB a.p) (pO a.p+i*1))) (AL (j:=i) O O a.ok underlying79 sizeOf3 O Z) O (AH (AW (v:=(vN ((dg a.x).getD i 0))) (i:=0) O O (a.ok.ne Z) BL (DO (ds:=dg a.x) (j:=i) Z)) O (asg' O (q3 (sL [0,2,4,3,5] O) (asg' O (OkL.nil ?_)))))))))))
   refine OkQ.then_ (OkC.block ?_)
   refine OkC.lp3 (tg λ(d:Nat) (k:Nat) (s2:List UInt8)=>k<=4/\d=(dg a.x).getD i 0/10^k/\s2=FN (4*i+k) a.x/\(i+1=(dg a.x).length->k=0\/(dg a.x).getD i 0/10^(k-1)≠0)) (tg λ(d:Nat) (k:Nat) (s2:List UInt8)=>[(0,(nV a)),(2,(Value.string (ByteArray.mk #[]))),(4,(vN i)),(5,(vN d)),(6,(vN k)),(3,(Value.string (txB s2)))]) (tg λ(d:Nat) (k:Nat) (s2:List UInt8)=>[nA a]) (tg λ(d:Nat) (k:Nat) (s2:List UInt8)=>4-k) ((dg a.x).getD i 0) 0 s (⟨Z,by simp,by rw [hs];rfl,λ_=>.inl O⟩) (sF O) sr (λd k s2 hJ=>?_)
   obtain ⟨hk4,hd,hs2,hnz⟩:=hJ
   have hdl:d<=(dg a.x).getD i 0:=by rw [hd];exact Nat.div_le_self _ _
   refine OkC.seq (q4 (AM O (AH (Ae (c:=(decide (k<4))) O O (CB (a:=k) (b:=4))) O (AM O ?_))))
   refine OkL.mid (FM:=[(0,(nV a)),(2,(Value.string (ByteArray.mk #[]))),(4,(vN i)),(5,(vN d)),(6,(vN k)),(3,(Value.string (txB s2))),(20,(vN k)),(21,(Value.bool (decide (k<4)))),(22,(Value.bool (decide (k<4)))),(32,(Value.bool ((decide (k<4))&&((decide ((i+1)<((dg a.x).length)))||(decide (0<d))))))]) (LM:=[nA a]) 10 ?_ ?_
   ·rcases Bool.eq_false_or_eq_true (decide (k<4)) with hg1|hg1
    ·skip
     refine OkL.retell (k:=22) (u:=Value.bool true) O (by rw [hg1]) ?_
     have hg1':=hg1
     replace hg1':=of_decide_eq_true hg1'
     refine OkL.step (v:=(vN i)) (AB O) (Ai O) O (AI O) (OkL.step (v:=(vN (i+1))) (AB O) (AX (c:=((i+1:Nat):Int)) O O (AR (a:=i) (b:=1) Z)) O (AI O) (OkL.step (v:=(nV a)) (AB O) (Ai O) O (AI O) (OkL.step (v:=(vN ((dg a.x).length))) (AB O) (AD O underlying79) O (AI O) (OkL.step (v:=(Value.bool (decide ((i+1)<((dg a.x).length))))) (AB O) (Ae (c:=(decide ((i+1)<((dg a.x).length)))) O O (CB (a:=i+1) (b:=(dg a.x).length))) O (AI O) (OkL.step (v:=(Value.bool (decide ((i+1)<((dg a.x).length))))) (AB O) (Ai O) O (AI O) ?_)))))
     refine OkL.mid (FM:=[(0,(nV a)),(2,(Value.string (ByteArray.mk #[]))),(4,(vN i)),(5,(vN d)),(6,(vN k)),(3,(Value.string (txB s2))),(20,(vN k)),(21,(Value.bool (decide (k<4)))),(22,(Value.bool true)),(23,(vN i)),(24,(vN (i+1))),(25,(nV a)),(26,(vN ((dg a.x).length))),(27,(Value.bool (decide ((i+1)<((dg a.x).length))))),(28,(Value.bool (decide ((i+1)<((dg a.x).length))))),(31,(Value.bool ((decide ((i+1)<((dg a.x).length)))||(decide (0<d)))))]) (LM:=[nA a]) 3 ?_ ?_
     ·rcases Bool.eq_false_or_eq_true (decide ((i+1)<((dg a.x).length))) with hg2|hg2
      ·skip
       refine OkL.retell (k:=28) (u:=Value.bool true) O (by rw [hg2]) ?_
       have hg2':=hg2
       replace hg2':=of_decide_eq_true hg2'
       exact OkL.skip (AC O) O (AI O) (OkL.skip (AC O) O (AI O) (OkL.step (v:=(Value.bool true)) (AB O) (AO O O) O (AI O) (OkL.nil (OkQ.mid (sS O (sS O (sS O (sS O (sS O (sS O (sS O (sS O (sS O (sS O (sS O (sS O (sS O (sS O (sS (by first|rfl|(rw [hg2];rfl)|rw [hg2]) (sS (by first|rfl|(rw [hg2];rfl)|rw [hg2]) (sN))))))))))))))))) (List.Sublist.refl _)))))
      ·skip
       refine OkL.retell (k:=28) (u:=Value.bool false) O (by rw [hg2]) ?_
       have hg2':=hg2
       replace hg2':=of_decide_eq_false hg2'
       exact OkL.step (v:=(vN d)) (AB O) (Ai O) O (AI O) (OkL.step (v:=(Value.bool (decide (0<d)))) (AB O) (Bs (c:=(decide (0<d))) O O (CB (a:=0) (b:=d))) O (AI O) (OkL.step (v:=(Value.bool (decide (0<d)))) (AB O) (AJ O O) O (AI O) (OkL.nil (OkQ.mid (sS O (sS O (sS O (sS O (sS O (sS O (sS O (sS O (sS O (sS O (sS O (sS O (sS O (sS O (sS (by first|rfl|(rw [hg2];rfl)|rw [hg2]) (sS (by first|rfl|(rw [hg2];rfl)|rw [hg2]) (sN))))))))))))))))) (List.Sublist.refl _)))))
     exact AH (v:=(Value.bool ((decide ((i+1)<((dg a.x).length)))||(decide (0<d))))) (AO O O) O (OkL.nil (OkQ.mid (sS O (sS O (sS O (sS O (sS O (sS O (sS O (sS O (sS (by first|rfl|(rw [hg1];rfl)|rw [hg1]) (sS (by first|rfl|(rw [hg1];rfl)|rw [hg1]) (sN))))))))))) (List.Sublist.refl _)))
    ·skip
     refine OkL.retell (k:=22) (u:=Value.bool false) O (by rw [hg1]) ?_
     have hg1':=hg1
     replace hg1':=of_decide_eq_false hg1'
     exact OkL.skip (AC O) O (AI O) (OkL.skip (AC O) O (AI O) (OkL.skip (AC O) O (AI O) (OkL.skip (AC O) O (AI O) (OkL.skip (AC O) O (AI O) (OkL.skip (AC O) O (AI O) (OkL.skip (BP O O O) O (AI O) (OkL.skip (BP O O O) O (AI O) (OkL.skip (AC O) O (AI O) (AH (v:=(Value.bool false)) (AJ O O) O (OkL.nil (OkQ.mid (sS O (sS O (sS O (sS O (sS O (sS O (sS O (sS O (sS (by first|rfl|(rw [hg1];rfl)|rw [hg1]) (sS (by first|rfl|(rw [hg1];rfl)|rw [hg1]) (sN))))))))))) (List.Sublist.refl _))))))))))))
   refine OkL.nil (OkQ.subF (sL [0,2,4,5,6,3,32] O) (OkQ.then_ ?_))
   refine OkC.cond O (λhc2=>?_) (λhc2=>?_)
   ·simp only [Bool.and_eq_true,Bool.or_eq_true,Bool.and_eq_false_iff,Bool.or_eq_false_iff,Bool.not_eq_true',Bool.not_eq_false',decide_eq_true_eq,decide_eq_false_iff_not] at hc2
    refine OkC.skip (q1 (OkC.block (q4 (AM O (AH (Dy (c:=((d%10:Nat):Int)) O O Z (Oo (a:=d) (b:=10))) O (AH (AX (c:=((48+(d%10):Nat):Int)) O O (AR (a:=48) (b:=d%10) Z)) O (AH (Aw (c:=((48+(d%10):Nat):Int)) O underlying3 underlying5 (Mw Z)) O (AH (v:=(Value.string (txB [UInt8.ofNat (48+d%10)]))) (Nd (a:=48+d%10) O underlying5 underlying9 Z) O (AM O (AH (v:=(Value.string (txB (FN (4*i+(k+1)) a.x)))) (CL (r:=(txB (FN (4*i+(k+1)) a.x))) O O (by rw [DK,DK,hs2,OK];simp;omega) (by rw [hs2];exact Uy hc2.1 hd)) O (asg' O ?_)))))))))))
    refine OkL.nil (OkQ.subF (sL [0,2,4,5,6,3] O) (OkQ.then_ (OkC.region (AM O (AH (Er (c:=((d/10:Nat):Int)) O O Z (Em (a:=d) (b:=10) Z)) O (asg' O (OkL.nil (OkQ.subF (sL [0,2,4,5,6,3] O) (OkQ.in_normal (OkQ.then_ (OkC.region ?_)))))))))))
    exact AM O (AH (AX (c:=((k+1:Nat):Int)) O O (AR (a:=k) (b:=1) Z)) O (asg' O (OkL.nil (OkQ.subF (sL [0,2,4,5,6,3] O) (OkQ.round3 (d/10) (k+1) (FN (4*i+(k+1)) a.x) (⟨Z,by rw [hd,Nat.div_div_eq_div_mul,<-Nat.pow_succ],rfl,λh=>.inr (by rw [Nat.add_sub_cancel,<-hd];omega)⟩) Z (sF O) sr)))))
   ·simp only [Bool.and_eq_true,Bool.or_eq_true,Bool.and_eq_false_iff,Bool.or_eq_false_iff,Bool.not_eq_true',Bool.not_eq_false',decide_eq_true_eq,decide_eq_false_iff_not] at hc2
    have hout:i+1<(dg a.x).length/\s2=FN (4*(i+1)) a.x\/i+1=(dg a.x).length/\s2=Lib.decDigits a.x:=by
        rcases Nat.lt_or_ge (i+1) (dg a.x).length with h|h
        ·exact .inl ⟨h,by rw [hs2,show k=4 by omega];rfl⟩
        ·exact .inr ⟨Z,by rw [hs2];exact SH hx0 Z hk4 hd (hnz Z) Z⟩
    exact OkC.exit (OkQ.then_exit (OkQ.round3_exit (OkQ.in_exit (OkQ.in_normal (OkQ.then_ (OkC.region (AM O (AH (AX (c:=((i+1:Nat):Int)) O O (AR (a:=i) (b:=1) Z)) O (asg' O (OkL.nil (OkQ.subF (sL [0,2,4,5,6,3] O) (OkQ.round2 (i+1) s2 (hout) Z (sF O) sr))))))))))))
  ·replace hc1:=of_decide_eq_false hc1
   have hs:s=Lib.decDigits a.x:=(hj.resolve_left Z).2
   exact OkC.exit (OkQ.then_exit (OkQ.round2_exit (OkQ.in_exit (q2 (AM O (asg' O (OkL.nil (OkQ.subF (sL [0,2,4,3] O) (OkQ.then_ (OkC.ret (ret_one O (rd_tmp (v:=(Value.string (txB s))) O) (λw hw=>⟨by rw [hs],hw.out⟩))))))))))))
end
end Go.Proofs.YtpolhpjiahbidaaGreatDoor
