import Derived.Test.YtpolhpjiahbidaaGreatDoorTie
import Derived.Test.YtpolhpjiahbidaaGreatDoorCards
import Derived.ProofKit
import Derived.LaidMore
import Derived.Carry
import Derived.Stop.Joined
import Derived.SevenTiedAt
import Derived.Test.YtpolhpjiahbidaaGreatDoorPart05
import Derived.Test.YtpolhpjiahbidaaGreatDoorPart18
import Derived.Test.YtpolhpjiahbidaaGreatDoorPart37
import Derived.Test.YtpolhpjiahbidaaGreatDoorPart42
import Derived.Test.YtpolhpjiahbidaaGreatDoorPart45
import Derived.Test.YtpolhpjiahbidaaGreatDoorPart46
import Derived.Test.YtpolhpjiahbidaaGreatDoorPart47
namespace Go.Proofs.YtpolhpjiahbidaaGreatDoor
open Go Go.RowKit Go.Proofs.Tryz
set_option linter.unusedVariables false
set_option linter.unusedSimpArgs false
section
set_option maxRecDepth 100000
theorem Tm {p q:QD} (hp:Ct p=true) (hq:Ct q=true):FW ((In p+In q)*(1/2)):=by
 unfold Ct at hp hq
 simp only [Bool.and_eq_true,decide_eq_true_eq] at hp hq
 obtain ⟨a,d⟩:=p
 obtain ⟨b,e⟩:=q
 unfold In
 obtain ⟨h1,h2,h3⟩:=hp
 obtain ⟨g1,g2,g3⟩:=hq
 have h1:-1000000<=a:=h1
 have h2:a<=1000000:=h2
 have h3:d<=1000000:=h3
 have g1:-1000000<=b:=g1
 have g2:b<=1000000:=g2
 have g3:e<=1000000:=g3
 show FW (((a:Rat)/(((max d 1:Nat):Int):Rat)+(b:Rat)/(((max e 1:Nat):Int):Rat))*(1/2))
 obtain ⟨x,hx⟩:∃x,x=max d 1:=⟨_,rfl⟩
 obtain ⟨y,hy⟩:∃y,y=max e 1:=⟨_,rfl⟩
 rw [<-hx,<-hy]
 have hx1:1<=x/\x<=1000000:=by omega
 have hy1:1<=y/\y<=1000000:=by omega
 have hX:(((x:Nat):Int):Rat)≠0:=λk=>by have:((x:Nat):Int)=0:=(by exact_mod_cast k);omega
 have hY:(((y:Nat):Int):Rat)≠0:=λk=>by have:((y:Nat):Int)=0:=(by exact_mod_cast k);omega
 have m1:(a*(y:Int)).natAbs<=1000000*1000000:=by rw [Int.natAbs_mul];exact Nat.mul_le_mul Z Z
 have m2:(b*(x:Int)).natAbs<=1000000*1000000:=by rw [Int.natAbs_mul];exact Nat.mul_le_mul Z Z
 have m3:x*y<=1000000*1000000:=Nat.mul_le_mul hx1.2 hy1.2
 have m4:1*1<=x*y:=Nat.mul_le_mul hx1.1 hy1.1
 have hD:(((2*(x*y):Nat):Int):Rat)≠0:=λk=>by have:((2*(x*y):Nat):Int)=0:=(by exact_mod_cast k);omega
 have e1:(((2*(x*y):Nat):Int):Rat)=2*((((x:Nat):Int):Rat)*(((y:Nat):Int):Rat)):=by push_cast;rfl
 have e2:((a*(y:Int)+b*(x:Int):Int):Rat)=(a:Rat)*(((y:Nat):Int):Rat)+(b:Rat)*(((x:Nat):Int):Rat):=by push_cast;rfl
 have key:((a:Rat)/(((x:Nat):Int):Rat)+(b:Rat)/(((y:Nat):Int):Rat))*(1/2)=((a*(y:Int)+b*(x:Int):Int):Rat)/(((2*(x*y):Nat):Int):Rat):=by
  rw [e1,e2]
  generalize (((x:Nat):Int):Rat)=X at hX
  generalize (((y:Nat):Int):Rat)=Y at hY
  grind
 rw [key]
 exact T9 Z Z Z
theorem UW {r:RW} (h:Gv r=false) {i:Nat} (hi:i<r.ds.length):Ct (r.ds.getD i EB).x=true/\Ct (r.ds.getD i EB).y=true:=by
 have k:¬(!Ct (r.ds.getD i EB).x||!Ct (r.ds.getD i EB).y)=true:=λk=>by rw [OI hi k] at h;cases h
 revert k
 generalize Ct (r.ds.getD i EB).x=u
 generalize Ct (r.ds.getD i EB).y=v
 cases u<;>cases v<;>decide
theorem XZ {r:RW} (h:Gv r=false) {vs:List P2} (hv:∀v∈vs,v.1<r.ps.length/\v.2<r.ps.length) {i:Nat} (hi:i<(Ke r.ps vs).length):PW ((Ke r.ps vs).getD i ⟨0,0⟩)/\Ds ((Ke r.ps vs).getD i ⟨0,0⟩)<=16:=by
 rcases Nat.lt_or_ge i r.ps.length with k|k
 ·rw [V9 k];exact ⟨r.pw i k,Nat.le_trans (r.sz i k) (by decide)⟩
 ·rw [Gj] at hi
  have hj:i-r.ps.length<vs.length:=by omega
  have e:(Ke r.ps vs).getD i ⟨0,0⟩=Ik r.ps vs[i-r.ps.length]:=by
   rw [Jk,List.getD,List.getElem?_append_right k,List.getElem?_map,List.getElem?_eq_getElem hj];rfl
  obtain ⟨a1,a2⟩:=hv _ (List.getElem_mem hj)
  rw [e]
  unfold Ik
  have s1:=r.sz _ a1
  have s2:=r.sz _ a2
  have s3:=TX (r.ps.getD vs[i-r.ps.length].1 ⟨0,0⟩) (r.ps.getD vs[i-r.ps.length].2 ⟨0,0⟩)
  refine ⟨?_,Z⟩
  have b1:vs[i-r.ps.length].1<r.ds.length:=by rw [<-r.pl];exact a1
  have b2:vs[i-r.ps.length].2<r.ds.length:=by rw [<-r.pl];exact a2
  rw [M5 r b1,M5 r b2]
  obtain ⟨x1,y1⟩:=UW h b1
  obtain ⟨x2,y2⟩:=UW h b2
  exact ⟨Tm x1 x2,Tm y1 y2⟩
theorem SW (r:RW) (i:Nat):Ds (r.ps.getD i ⟨0,0⟩)<=1000:=by
 rcases Nat.lt_or_ge i r.ps.length with h|h
 ·exact Nat.le_trans (r.sz i h) (by decide)
 ·rw [List.getD,List.getElem?_eq_none h];decide +kernel
theorem KD  :Instr.fill ([(0,1),(1,1),(2,1)].toArray[·]?) ([(Value.slice none 0 0),(Value.slice none 0 0),(Value.slice none 0 0)]).toArray []=some ([(Value.slice none 0 0),(Value.slice none 0 0),(Value.slice none 0 0)]).toArray:=by kernel_rfl
theorem UR {N M K:Nat} (x:RU N M K) (hu:∀(S:Nat->Prop) (w:World),Ro S w x->Calls prog 43 #[(aG (Kf x))] w (Ah w (Value.bool false))) (w:World) {S:Nat->Prop} (hx:Ro S w x):Calls prog 11 #[(aG (Kf x))] w (Af (Wz [] [] [] [] 1) S w):=by
 have lx:=CI (W:=w) hx
 refine AY (args:=[(aG (Kf x))]) (L:=[AE x.a.p (x.cs),AE x.b.p (x.es),AE x.c.p (x.ds)]) func11 O O (AI O) (D9 hx Aj) (OkC.subF (sL [0] O) (q4 (Be (cs:=Kf x) O λb1=>al IW O λb2=>asg' O (asg' O (q6 (sL [1,2,3,4] O) (q4 (BH 1 Dn O (Ce call43 (λw hw=>hu _ w (inS hw 2 O lx)) O (AH (BU (c:=true) O O) O ?_)))))))))
 refine OkL.nil (OkQ.subF (sL [1,2,3,4,17] O) (OkQ.then_ (OkC.cond_true O (q4 (AH (v:=(aG ([(Value.slice none 0 0),(Value.slice none 0 0),(Value.slice none 0 0)]))) (AQ (zs:=[(Value.slice none 0 0),(Value.slice none 0 0),(Value.slice none 0 0)]) (vs:=[(Value.slice none 0 0),(Value.slice none 0 0),(Value.slice none 0 0)]) (pv:=[]) (places:=[(0,1),(1,1),(2,1)]) zeroValue30 underlying30 (λw=>by simp [sizeOf23,sizeOf24,sizeOf28]) O (KD )) O (Ax O sizeOf30 O (asg' O (asg' O (OkL.nil (OkQ.subF (sL [1,2,3,4] O) (OkQ.then_ ?_)))))))))))
 exact OkC.ret (OkQ.then_ret (C9 O (Ak (i:=0) (cs:=[(Value.slice none 0 0),(Value.slice none 0 0),(Value.slice none 0 0)]) O O isAgg30 sizeOf30 O) (rd_tmp (v:=(Value.slice none 0 0)) O) (rd_tmp (v:=(vI 1)) O) (λw hw=>(Wr hw 1 O))))
theorem JQ  :Instr.fill ([(0,1),(1,1),(2,1)].toArray[·]?) ([(Value.slice none 0 0),(Value.slice none 0 0),(Value.slice none 0 0)]).toArray []=some ([(Value.slice none 0 0),(Value.slice none 0 0),(Value.slice none 0 0)]).toArray:=by kernel_rfl
theorem Q7 {N M K:Nat} (x:RU N M K) (hu:∀(S:Nat->Prop) (w:World),Ro S w x->Calls prog 45 #[(aG (Kf x))] w (Ah w (Value.bool false))) (w:World) {S:Nat->Prop} (hx:Ro S w x):Calls prog 12 #[(aG (Kf x))] w (Af (Xc [] [] [] [] 1) S w):=by
 have lx:=CI (W:=w) hx
 refine AY (args:=[(aG (Kf x))]) (L:=[AE x.a.p (x.cs),AE x.b.p (x.es),AE x.c.p (x.ds)]) func12 O O (AI O) (D9 hx Aj) (OkC.subF (sL [0] O) (q4 (Be (cs:=Kf x) O λb1=>al PK O λb2=>asg' O (asg' O (q6 (sL [1,2,3,4] O) (q4 (BH 1 DA O (Ce call45 (λw hw=>hu _ w (inS hw 2 O lx)) O (AH (BU (c:=true) O O) O ?_)))))))))
 refine OkL.nil (OkQ.subF (sL [1,2,3,4,17] O) (OkQ.then_ (OkC.cond_true O (q4 (AH (v:=(aG ([(Value.slice none 0 0),(Value.slice none 0 0),(Value.slice none 0 0)]))) (AQ (zs:=[(Value.slice none 0 0),(Value.slice none 0 0),(Value.slice none 0 0)]) (vs:=[(Value.slice none 0 0),(Value.slice none 0 0),(Value.slice none 0 0)]) (pv:=[]) (places:=[(0,1),(1,1),(2,1)]) zeroValue39 underlying39 (λw=>by simp [sizeOf23,sizeOf36,sizeOf37]) O (JQ )) O (Ax O sizeOf39 O (asg' O (asg' O (OkL.nil (OkQ.subF (sL [1,2,3,4] O) (OkQ.then_ ?_)))))))))))
 exact OkC.ret (OkQ.then_ret (C9 O (Ak (i:=0) (cs:=[(Value.slice none 0 0),(Value.slice none 0 0),(Value.slice none 0 0)]) O O isAgg39 sizeOf39 O) (rd_tmp (v:=(Value.slice none 0 0)) O) (rd_tmp (v:=(vI 1)) O) (λw hw=>(Wf hw 1 O))))
theorem Wv {ps:List Pt} {zt ss:List Z3} (x:MZ ps zt ss) (hz:∀i,Ds (OJ ps i)<=1000000) (hp:ps.length<=1000) (ht:zt.length<=1000) (hs:ss.length<=1000000) (w:World) {S:Nat->Prop} (hx:Ro S w x) :
  Calls prog 11 #[(aG (Cy x))] w (Af (Wz (Hb ps zt) (Gw ps.length zt) (H2 ps.length zt ss) (F3 ps.length zt) (XG ps.length zt)) S w):=by
 unfold Hb Gw H2 F3 XG
 by_cases h:DL ps.length zt=true
 ·rw [if_pos h,if_pos h,if_pos h,if_pos h,if_pos h]
  obtain ⟨ts,rfl,hnb⟩:=Nf h
  obtain ⟨y,hy,hro⟩:=ZS x
  rw [N4,List.length_map]
  rw [List.length_map] at ht
  have hel:=MU ts
  have k:=Va y hnb hz Z Z hs ⟨Z,Z⟩ w (hro hx)
  rw [hy] at k
  exact k
 ·rw [if_neg h,if_neg h,if_neg h,if_neg h,if_neg h]
  rw [Bool.not_eq_true] at h
  exact UR x.rq.ru (λS w hh=>by have h9:=OL x.rq Z w (S:=S) (λy hy=>hh y hy);rw [h] at h9;exact h9) w (Sj (Y1 hx))
theorem Tt {ps:List Pt} {zt ss:List Z3} (x:HO ps zt ss) (hz:∀i,i<ps.length->Ds (ps.getD i ⟨0,0⟩)<=1000) (hp:ps.length<=1000) (ht:zt.length<=1000) (hs:ss.length<=1000000) (w:World) {S:Nat->Prop} (hx:Ro S w x) :
  Calls prog 12 #[(aG (Dp x))] w (Af (Xc (Hb ps zt) (Gw ps.length zt) (H2 ps.length zt ss) (F3 ps.length zt) (XG ps.length zt)) S w):=by
 unfold Hb Gw H2 F3 XG
 by_cases h:DL ps.length zt=true
 ·rw [if_pos h,if_pos h,if_pos h,if_pos h,if_pos h]
  obtain ⟨ts,rfl,hnb⟩:=Nf h
  obtain ⟨y,hy,_,hro⟩:=ZI x
  rw [N4,List.length_map]
  rw [List.length_map] at ht
  have hel:=MU ts
  have k:=VJ y hnb hz ⟨Z,Z⟩ hs w (hro hx)
  rw [hy] at k
  exact k
 ·rw [if_neg h,if_neg h,if_neg h,if_neg h,if_neg h]
  rw [Bool.not_eq_true] at h
  exact Q7 x.rq.ru (λS w hh=>by have h9:=Ka x.rq Z w (S:=S) (λy hy=>hh y hy);rw [show DL x.rs.length zt=false from (by rw [x.len];exact h)] at h9;exact h9) w (Sj (V_ hx))
theorem X_ {ps:List Pt} {ts ss:List Z3} {l:List Nat} {e:Nat} {S:Nat->Prop} {w:World} {a:Wz ps ts ss l e} (h:Ro S w a):Ro S w a.x.m:=λy hy=>h y (List.mem_append_left [AE a.q.p (inL l)] (show y∈[a.x.m.a.row,a.x.m.b.row,a.x.m.c.row] from hy))
theorem Pv {α:Type} [Cc α] {a:α} {w0:A_} {w:World} {L:List As} (hw:BD w0 w L) (i:Nat) (hi:(L.drop i).take (Cc.rows a).length=Cc.rows a):Ro SA w a:=λy hy=>⟨λb e=>(hw.2.1 y (List.mem_of_mem_drop (List.mem_of_mem_take (hi▸hy))) b e).2,λ_ _=>trivial⟩
theorem YA {ps:List Pt} {zt ss:List Z3}:(Hb ps zt).length<=ps.length+3*zt.length/\(Gw ps.length zt).length<=4*zt.length/\(H2 ps.length zt ss).length<=12*zt.length/\(F3 ps.length zt).length<=4*zt.length:=by
 unfold Hb Gw H2 F3
 split
 ·have h1:=Ul (N:=ps.length) (ts:=zt.map Db)
  have h2:=MU (zt.map Db)
  have h3:=KB (n:=ps.length+(Q0 ps.length (zt.map Db)).length) (us:=Rs ps.length (zt.map Db))
  rw [Pr] at h3
  rw [List.length_map] at h2 h3
  refine ⟨?_,?_,?_,?_⟩
  ·unfold YS;rw [Gj];omega
  ·rw [Pr,List.length_map];exact Nat.le_refl _
  ·unfold U8 L8;rw [List.length_map];omega
  ·rw [Eh];exact Nat.le_refl _
 ·exact ⟨Nat.zero_le _,Nat.zero_le _,Nat.zero_le _,Nat.zero_le _⟩
theorem XB {r:RW} (h:Gv r=false) {i:Nat} (hi:i<(Hb r.ps r.ts).length):PW ((Hb r.ps r.ts).getD i ⟨0,0⟩)/\Ds ((Hb r.ps r.ts).getD i ⟨0,0⟩)<=16:=by
 unfold Hb at hi ⊢
 split at hi
 ·rename_i e
  rw [if_pos e]
  exact XZ h (λv hv=>Wm hv) hi
 ·cases hi
theorem Up (l:List Nat) (a:CX (inL l) l.length) (b:RX (inL l) l.length) (hl:l.length<=1000000000) (w:World) {S:Nat->Prop} (ha:Ro S w a) (hb:Ro S w b):Calls prog 15 #[(Value.slice a.p l.length l.length),(Value.slice b.p l.length b.c)] w (Ah w (Value.bool true)):=by
 have la:=CI (W:=w) ha
 have lb:=CI (W:=w) hb
 refine AY (args:=[(Value.slice a.p l.length l.length),(Value.slice b.p l.length b.c)]) (L:=[AE a.p (inL l),AE b.p (inL l)]) func15 O O (AI O) (D9 ha (D9 hb Aj)) (OkC.subF (sL [0,1] O) (q4 (asg' O (OkL.nil (q1 (q4 (AM O (AH (v:=(vN l.length)) (AD O underlying32) O (AM O (AH (v:=(vN l.length)) (AD O underlying32) O (AH (CD (c:=false) O O (decide_eq_false λh=>h O)) O ?_)))))))))))
 refine AM O (OkL.step (v:=(Value.slice a.p l.length l.length)) (AB O) (Ai O) O (AI O) (OkL.step (v:=(vN l.length)) (AB O) (Fw O underlying32) O (AI O) (OkL.step (v:=(Value.slice a.p l.length l.length)) (AB O) (Ai O) O (AI O) (OkL.step (v:=(vN l.length)) (AB O) (AD O underlying32) O (AI O) (OkL.step (v:=(Value.bool false)) (AB O) (Bs (c:=false) O O (decide_eq_false Z)) O (AI O) (AH (v:=(Value.bool false)) (AJ O O) O (OkL.nil (OkQ.subF (sL [0,1,4,17] O) (OkQ.then_ (OkC.cond_false O (OkC.skip ?_)))))))))))
 refine q1 (q4 (asg' O (OkL.nil (OkQ.subF (sL [0,1,4,5] O) (OkQ.then_ (OkC.block ?_))))))
 refine OkC.lp1 (tg λ(i:Nat)=>i<=l.length) (tg λ(i:Nat)=>[(0,(Value.slice a.p l.length l.length)),(1,(Value.slice b.p l.length b.c)),(5,(vN i))]) (tg λ(i:Nat)=>[AE a.p (inL l),AE b.p (inL l)]) (tg λ(i:Nat)=>l.length-i) 0 (Nat.zero_le _) (sF O) sr (λi hJ=>?_)
 have hi:=hJ
 refine OkC.seq (q4 (AM O (AM O (AH (v:=(vN l.length)) (AD O underlying32) O (AH (Ae (c:=(decide (i<l.length))) O O (CB (a:=i) (b:=l.length))) O (OkL.nil (OkQ.subF (sL [0,1,5,21] O) (OkQ.then_ ?_))))))))
 refine OkC.cond O (λhc1=>?_) (λhc1=>?_)
 ·replace hc1:=of_decide_eq_true hc1
  refine OkC.skip (q1 (OkC.block (OkC.seq (Cd [(0,true),(1,true),(2,true),(3,true),(4,true),(5,true),(6,true),(7,true),(8,true)] sr (BV O (BV O (Al (v:=(pP (pB a.p) (pO a.p+i*1))) O (AL (j:=i) O O a.ok underlying32 sizeOf3 O Z) (Al O (AW (v:=(vN (l.getD i 0))) (i:=0) O O (a.ok.ne Z) BL (Pm (l:=l) (j:=i) Z)) (BV O (BV O (Al (v:=(pP (pB b.p) (pO b.p+i*1))) O (AL (j:=i) O O b.ok underlying32 sizeOf3 O Z) ?_)))))))))))
  refine Al O (AW (v:=(vN (l.getD i 0))) (i:=1) O O (b.ok.ne Z) BL (Pm (l:=l) (j:=i) Z)) (Al O (CD (c:=false) O O (decide_eq_false λh=>h O)) (OkE.nil (OkQ.subF (sL [0,1,5,32] O) (OkQ.then_ (OkC.cond_false O (OkC.skip (OkQ.in_normal (OkQ.then_ (OkC.region (AM O (AH (AX (c:=((i+1:Nat):Int)) O O (AR (a:=i) (b:=1) Z)) O ?_)))))))))))
  exact asg' O (OkL.nil (OkQ.subF (sL [0,1,5] O) (OkQ.round1 (i+1) Z Z (sF O) sr)))
 ·replace hc1:=of_decide_eq_false hc1
  exact OkC.exit (OkQ.then_exit (OkQ.round1_exit (OkQ.in_exit (q2 (asg' O (OkL.nil (OkQ.then_ (OkC.ret (ret_one O (rd_tmp (v:=(Value.bool true)) O) (λw hw=>⟨rfl,hw.out⟩))))))))))
set_option maxHeartbeats 4000000 in
theorem Ki (r:RW) (w:World) {S:Nat->Prop} (hr:Ro S w r) (hT:On w):Calls prog 3 #[(aG (Fb r))] w (Ah w (Value.bool true)):=by
 have hrp:=r.pl
 obtain ⟨hn1,hn2,hn3,hn4⟩:=YA (ps:=r.ps) (zt:=r.ts) (ss:=r.ss)
 have lr:=CI (W:=w) hr
 refine AY (args:=[(aG (Fb r))]) (L:=[AE r.a.p (rowsL Fe r.ds),AE r.b.p (rowsL Ac r.ts),AE r.c.p (rowsL Ac r.ss)]) func3 O O (AI O) (D9 hr Aj) (OkC.subF (sL [0] O) (q4 (Be (cs:=Fb r) O λb1=>asg' O (q6 (sL [1,2] O) (q4 (BH 0 UD O (Ce call8 (λw hw=>ST r w (inS hw 1 O lr)) O (OkL.nil (OkQ.subF (sL [1,2,11] O) (OkQ.then_ ?_))))))))))
 refine OkC.cond O (λhc0=>?_) (λhc0=>?_)
 ·skip
  exact q4 (ck' call9 (KM) O (asg' O (OkL.nil (OkQ.subF (sL [1,2] O) (OkQ.then_ (OkC.ret (OkQ.then_ret (ret_one O (rd_tmp (v:=(Value.bool true)) O) (λw hw=>⟨rfl,hw.out⟩)))))))))
 ·skip
  have hgr:Gv r=false:=by simpa using hc0
  obtain ⟨hr1,hr2,hr3⟩:=TI (r:=r) hgr
  refine OkC.skip (q2 (BH 0 UD O (OkL.callR (S:=S) (α:=MZ r.ps r.ts r.ss) (args:=[(aG (Fb r))]) call10 (λw hw=>Un r hr1 hr2 hr3 w (inS hw 1 O lr)) O O O λm lm=>al IW O λb2=>Ax O sizeOf30 O (q3 (sL [1,2,3] O) (BH 0 Dn O (OkL.callR (S:=S) (α:=Wz (Hb r.ps r.ts) (Gw r.ps.length r.ts) (H2 r.ps.length r.ts r.ss) (F3 r.ps.length r.ts) (XG r.ps.length r.ts)) (args:=[(aG (Cy m))]) call11 (λw hw=>Wv m (λi=>Nat.le_trans (SW r i) (by decide)) (by rw [r.pl];omega) Z Z w (inS hw 1 O lm)) O O O λra lra=>AM O (AH (AV (v:=(aG (Cy ra.x.m))) O O) O (AH (AV (v:=(Value.slice ra.q.p ((F3 r.ps.length r.ts).length) ((F3 r.ps.length r.ts).length))) O O) O ?_))))))))
  refine AH (AV (v:=(vN (XG r.ps.length r.ts))) O O) O (al IW O λb3=>Ax O sizeOf30 O (asg' O (asg' O (q3 (sL [1,2,3,4,5,6] O) (BH 9 UD O (OkL.callR (S:=S) (α:=HO r.ps r.ts r.ss) (args:=[(aG (Fb r))]) call13 (λw hw=>P8 r hr1 hr2 hr3 w (inS hw 10 O lr)) O O O λo1 lo1=>OkL.permR (L2:=(AE o1.a.p (rowsL B0 o1.rs)::AE o1.b.p (rowsL Ac r.ts)::AE o1.c.p (rowsL Ac r.ss)::AU b3 30 (Cy ra.x.m)::AE ra.x.m.a.p (rowsL BC (Hb r.ps r.ts))::AE ra.x.m.b.p (rowsL Ac (Gw r.ps.length r.ts))::AE ra.x.m.c.p (rowsL Ac (H2 r.ps.length r.ts r.ss))::AE ra.q.p (inL (F3 r.ps.length r.ts))::AU b2 30 (Cy m)::AE m.a.p (rowsL BC r.ps)::AE m.b.p (rowsL Ac r.ts)::AE m.c.p (rowsL Ac r.ss)::AU b1 26 (Fb r)::AE r.a.p (rowsL Fe r.ds)::AE r.b.p (rowsL Ac r.ts)::AE r.c.p (rowsL Ac r.ss)::Ca o1.rs)) (show List.Perm _ (AE o1.a.p (rowsL B0 o1.rs)::AE o1.b.p (rowsL Ac r.ts)::AE o1.c.p (rowsL Ac r.ss)::AU b3 30 (Cy ra.x.m)::AE ra.x.m.a.p (rowsL BC (Hb r.ps r.ts))::AE ra.x.m.b.p (rowsL Ac (Gw r.ps.length r.ts))::AE ra.x.m.c.p (rowsL Ac (H2 r.ps.length r.ts r.ss))::AE ra.q.p (inL (F3 r.ps.length r.ts))::AU b2 30 (Cy m)::AE m.a.p (rowsL BC r.ps)::AE m.b.p (rowsL Ac r.ts)::AE m.c.p (rowsL Ac r.ss)::AU b1 26 (Fb r)::AE r.a.p (rowsL Fe r.ds)::AE r.b.p (rowsL Ac r.ts)::AE r.c.p (rowsL Ac r.ss)::Ca o1.rs) from Lz [AE o1.a.p (rowsL B0 o1.rs),AE o1.b.p (rowsL Ac r.ts),AE o1.c.p (rowsL Ac r.ss)] (Ca o1.rs) [AU b3 30 (Cy ra.x.m),AE ra.x.m.a.p (rowsL BC (Hb r.ps r.ts)),AE ra.x.m.b.p (rowsL Ac (Gw r.ps.length r.ts)),AE ra.x.m.c.p (rowsL Ac (H2 r.ps.length r.ts r.ss)),AE ra.q.p (inL (F3 r.ps.length r.ts)),AU b2 30 (Cy m),AE m.a.p (rowsL BC r.ps),AE m.b.p (rowsL Ac r.ts),AE m.c.p (rowsL Ac r.ss),AU b1 26 (Fb r),AE r.a.p (rowsL Fe r.ds),AE r.b.p (rowsL Ac r.ts),AE r.c.p (rowsL Ac r.ss)]) (OkL.callR (S:=S) (α:=Xc (Hb r.ps r.ts) (Gw r.ps.length r.ts) (H2 r.ps.length r.ts r.ss) (F3 r.ps.length r.ts) (XG r.ps.length r.ts)) (args:=[(aG (Dp o1))]) call12 (λw hw=>Tt o1 (λi h=>SW r i) (by rw [r.pl];omega) Z Z w (XE (x:=o1) hw 0 O (λz hz=>List.mem_append_right [AE o1.a.p (rowsL B0 o1.rs),AE o1.b.p (rowsL Ac r.ts),AE o1.c.p (rowsL Ac r.ss),AU b3 30 (Cy ra.x.m),AE ra.x.m.a.p (rowsL BC (Hb r.ps r.ts)),AE ra.x.m.b.p (rowsL Ac (Gw r.ps.length r.ts)),AE ra.x.m.c.p (rowsL Ac (H2 r.ps.length r.ts r.ss)),AE ra.q.p (inL (F3 r.ps.length r.ts)),AU b2 30 (Cy m),AE m.a.p (rowsL BC r.ps),AE m.b.p (rowsL Ac r.ts),AE m.c.p (rowsL Ac r.ss),AU b1 26 (Fb r),AE r.a.p (rowsL Fe r.ds),AE r.b.p (rowsL Ac r.ts),AE r.c.p (rowsL Ac r.ss)] hz) lo1)) O O O λrb lrb=>OkL.permR (L2:=(AE rb.q.p (inL (F3 r.ps.length r.ts))::AE rb.x.a.p (rowsL B0 rb.x.rs)::AE rb.x.b.p (rowsL Ac (Gw r.ps.length r.ts))::AE rb.x.c.p (rowsL Ac (H2 r.ps.length r.ts r.ss))::AE o1.a.p (rowsL B0 o1.rs)::AE o1.b.p (rowsL Ac r.ts)::AE o1.c.p (rowsL Ac r.ss)::AU b3 30 (Cy ra.x.m)::AE ra.x.m.a.p (rowsL BC (Hb r.ps r.ts))::AE ra.x.m.b.p (rowsL Ac (Gw r.ps.length r.ts))::AE ra.x.m.c.p (rowsL Ac (H2 r.ps.length r.ts r.ss))::AE ra.q.p (inL (F3 r.ps.length r.ts))::AU b2 30 (Cy m)::AE m.a.p (rowsL BC r.ps)::AE m.b.p (rowsL Ac r.ts)::AE m.c.p (rowsL Ac r.ss)::AU b1 26 (Fb r)::AE r.a.p (rowsL Fe r.ds)::AE r.b.p (rowsL Ac r.ts)::AE r.c.p (rowsL Ac r.ss)::(Ca o1.rs++Ca rb.x.rs))) (show List.Perm _ (AE rb.q.p (inL (F3 r.ps.length r.ts))::AE rb.x.a.p (rowsL B0 rb.x.rs)::AE rb.x.b.p (rowsL Ac (Gw r.ps.length r.ts))::AE rb.x.c.p (rowsL Ac (H2 r.ps.length r.ts r.ss))::AE o1.a.p (rowsL B0 o1.rs)::AE o1.b.p (rowsL Ac r.ts)::AE o1.c.p (rowsL Ac r.ss)::AU b3 30 (Cy ra.x.m)::AE ra.x.m.a.p (rowsL BC (Hb r.ps r.ts))::AE ra.x.m.b.p (rowsL Ac (Gw r.ps.length r.ts))::AE ra.x.m.c.p (rowsL Ac (H2 r.ps.length r.ts r.ss))::AE ra.q.p (inL (F3 r.ps.length r.ts))::AU b2 30 (Cy m)::AE m.a.p (rowsL BC r.ps)::AE m.b.p (rowsL Ac r.ts)::AE m.c.p (rowsL Ac r.ss)::AU b1 26 (Fb r)::AE r.a.p (rowsL Fe r.ds)::AE r.b.p (rowsL Ac r.ts)::AE r.c.p (rowsL Ac r.ss)::(Ca o1.rs++Ca rb.x.rs)) from Lz [AE rb.q.p (inL (F3 r.ps.length r.ts)),AE rb.x.a.p (rowsL B0 rb.x.rs),AE rb.x.b.p (rowsL Ac (Gw r.ps.length r.ts)),AE rb.x.c.p (rowsL Ac (H2 r.ps.length r.ts r.ss))] (Ca rb.x.rs) (AE o1.a.p (rowsL B0 o1.rs)::AE o1.b.p (rowsL Ac r.ts)::AE o1.c.p (rowsL Ac r.ss)::AU b3 30 (Cy ra.x.m)::AE ra.x.m.a.p (rowsL BC (Hb r.ps r.ts))::AE ra.x.m.b.p (rowsL Ac (Gw r.ps.length r.ts))::AE ra.x.m.c.p (rowsL Ac (H2 r.ps.length r.ts r.ss))::AE ra.q.p (inL (F3 r.ps.length r.ts))::AU b2 30 (Cy m)::AE m.a.p (rowsL BC r.ps)::AE m.b.p (rowsL Ac r.ts)::AE m.c.p (rowsL Ac r.ss)::AU b1 26 (Fb r)::AE r.a.p (rowsL Fe r.ds)::AE r.b.p (rowsL Ac r.ts)::AE r.c.p (rowsL Ac r.ss)::Ca o1.rs)) (AM O ?_))))))))
  refine AH (AV (v:=(aG (Dp rb.x))) O O) O (AH (AV (v:=(Value.slice rb.q.p ((F3 r.ps.length r.ts).length) rb.q.c)) O O) O (AH (AV (v:=(vN (XG r.ps.length r.ts))) O O) O (al PK O λb4=>Ax O sizeOf39 O (asg' O (asg' O (q6 (sL [1,2,3,4,5,6,7,8,9] O) (Cd [(0,true),(1,true),(2,true),(3,true),(4,true),(5,true),(6,false),(7,true),(8,true),(9,true),(10,true),(11,false),(12,true),(13,true),(14,true),(15,true),(16,true),(17,true),(18,true),(19,true),(20,true),(21,true),(22,true),(23,true),(24,true),(25,true),(26,true),(27,true),(28,true),(29,true),(30,true),(31,true),(32,true),(33,true),(34,false),(35,false),(36,true),(37,true),(38,false),(39,true),(40,true)] sr (BV O (BV O (Al O (BG (c:=true) O O (decide_eq_true O)) ?_))))))))))
  refine BV O (OkE.pas (v:=(aG (Cy ra.x.m))) O (AB O) (A6 (i:=8) (vs:=Cy ra.x.m) O O Dn.a Dn.s O O) O O (OkE.pas (v:=(aG (Dp rb.x))) O (AB O) (A6 (i:=0) (vs:=Dp rb.x) O O DA.a DA.s O O) O O (OkE.imp O (OkL.call (v:=(Value.bool true)) (AB O) (Ap (args:=[(aG (Cy ra.x.m)),(aG (Dp rb.x))]) O O call14) (λw hw=>(by have h9:=M7 (S:=SA) ra.x.m rb.x (λi h=>(XB hgr h).1) (λi h=>Nat.le_trans (XB hgr h).2 (by decide)) Z Z Z w (Yw (X_ (inS (S:=S) (a:=ra) hw 9 O lra))) (PH (x:=rb.x) hw 2 O (λz hz=>List.mem_append_right [AU b4 39 (Dp rb.x),AE rb.q.p (inL (F3 r.ps.length r.ts)),AE rb.x.a.p (rowsL B0 rb.x.rs),AE rb.x.b.p (rowsL Ac (Gw r.ps.length r.ts)),AE rb.x.c.p (rowsL Ac (H2 r.ps.length r.ts r.ss)),AE o1.a.p (rowsL B0 o1.rs),AE o1.b.p (rowsL Ac r.ts),AE o1.c.p (rowsL Ac r.ss),AU b3 30 (Cy ra.x.m),AE ra.x.m.a.p (rowsL BC (Hb r.ps r.ts)),AE ra.x.m.b.p (rowsL Ac (Gw r.ps.length r.ts)),AE ra.x.m.c.p (rowsL Ac (H2 r.ps.length r.ts r.ss)),AE ra.q.p (inL (F3 r.ps.length r.ts)),AU b2 30 (Cy m),AE m.a.p (rowsL BC r.ps),AE m.b.p (rowsL Ac r.ts),AE m.c.p (rowsL Ac r.ss),AU b1 26 (Fb r),AE r.a.p (rowsL Fe r.ds),AE r.b.p (rowsL Ac r.ts),AE r.c.p (rowsL Ac r.ss)] (List.mem_append_right _ hz))) (hT.below hw.out);rw [decide_eq_true ⟨rfl,rfl,rfl⟩] at h9;exact h9)) O (AI O) (OkE.back sr (Al (v:=(Value.bool true)) O (AO O O) (BV O (OkE.pas (v:=(Value.slice ra.q.p ((F3 r.ps.length r.ts).length) ((F3 r.ps.length r.ts).length))) O (AB O) (Ai O) O O (OkE.pas (v:=(Value.slice rb.q.p ((F3 r.ps.length r.ts).length) rb.q.c)) O (AB O) (Ai O) O O (OkE.imp O (OkL.call (v:=(Value.bool true)) (AB O) (Ap (args:=[(Value.slice ra.q.p ((F3 r.ps.length r.ts).length) ((F3 r.ps.length r.ts).length)),(Value.slice rb.q.p ((F3 r.ps.length r.ts).length) rb.q.c)]) O O call15) (λw hw=>Up (S:=SA) (F3 r.ps.length r.ts) ra.q rb.q Z w (Pv hw 12 O) (Pv hw 1 O)) O (AI O) ?_)))))))))))
  refine OkE.back sr (Al (v:=(Value.bool true)) O (AO O O) (BV O (OkE.pas (v:=(pP b3 0)) O (AB O) (AA O underlying30 O sizeOf28 O) O O (OkE.pas (v:=(Value.slice ra.x.m.a.p ((Hb r.ps r.ts).length) ra.x.m.a.c)) O (AB O) (AF (i:=8) (v:=(Value.slice ra.x.m.a.p ((Hb r.ps r.ts).length) ra.x.m.a.c)) O O DE.a O) O O (OkE.pas (v:=(vN ra.x.m.a.c)) O (AB O) (Fw O underlying28) O O (OkE.pas (v:=(pP b3 0)) O (AB O) (AA O underlying30 O sizeOf28 O) O O (OkE.pas (v:=(Value.slice ra.x.m.a.p ((Hb r.ps r.ts).length) ra.x.m.a.c)) O (AB O) (AF (i:=8) (v:=(Value.slice ra.x.m.a.p ((Hb r.ps r.ts).length) ra.x.m.a.c)) O O DE.a O) O O (OkE.pas (v:=(vN ((Hb r.ps r.ts).length))) O (AB O) (AD O underlying28) O O (OkE.pas (v:=(Value.bool true)) O (AB O) (BG (c:=true) O O (decide_eq_true (congrArg (λq:Nat=>(q:Int)) ra.x.ha))) O O (Al (v:=(Value.bool true)) O (AO O O) (BV O ?_)))))))))))
  refine OkE.pas (v:=(pP b3 1)) O (AB O) (AA O underlying30 O sizeOf23 O) O O (OkE.pas (v:=(Value.slice ra.x.m.b.p ((Gw r.ps.length r.ts).length) ra.x.m.b.c)) O (AB O) (AF (i:=8) (v:=(Value.slice ra.x.m.b.p ((Gw r.ps.length r.ts).length) ra.x.m.b.c)) O O CU.a O) O O (OkE.pas (v:=(vN ra.x.m.b.c)) O (AB O) (Fw O underlying23) O O (OkE.pas (v:=(pP b3 1)) O (AB O) (AA O underlying30 O sizeOf23 O) O O (OkE.pas (v:=(Value.slice ra.x.m.b.p ((Gw r.ps.length r.ts).length) ra.x.m.b.c)) O (AB O) (AF (i:=8) (v:=(Value.slice ra.x.m.b.p ((Gw r.ps.length r.ts).length) ra.x.m.b.c)) O O CU.a O) O O (OkE.pas (v:=(vN ((Gw r.ps.length r.ts).length))) O (AB O) (AD O underlying23) O O (OkE.pas (v:=(Value.bool true)) O (AB O) (BG (c:=true) O O (decide_eq_true (congrArg (λq:Nat=>(q:Int)) ra.x.hb))) O O (Al (v:=(Value.bool true)) O (AO O O) (BV O (OkE.pas (v:=(aG (Cy m))) O (AB O) (A6 (i:=13) (vs:=Cy m) O O Dn.a Dn.s O O) O O (OkE.pas (v:=(aG (Fb r))) O (AB O) (A6 (i:=17) (vs:=Fb r) O O UD.a UD.s O O) O O (OkE.imp O ?_)))))))))))
  refine OkL.unguard (AB O) (OkL.callR (S:=S) (α:=HO r.ps r.ts r.ss) (args:=[(aG (Fb r))]) call13 (λw hw=>P8 r hr1 hr2 hr3 w (inS hw 18 O lr)) O O O λo2 lo2=>OkL.permR (L2:=(AE o2.a.p (rowsL B0 o2.rs)::AE o2.b.p (rowsL Ac r.ts)::AE o2.c.p (rowsL Ac r.ss)::AU b4 39 (Dp rb.x)::AE rb.q.p (inL (F3 r.ps.length r.ts))::AE rb.x.a.p (rowsL B0 rb.x.rs)::AE rb.x.b.p (rowsL Ac (Gw r.ps.length r.ts))::AE rb.x.c.p (rowsL Ac (H2 r.ps.length r.ts r.ss))::AE o1.a.p (rowsL B0 o1.rs)::AE o1.b.p (rowsL Ac r.ts)::AE o1.c.p (rowsL Ac r.ss)::AU b3 30 (Cy ra.x.m)::AE ra.x.m.a.p (rowsL BC (Hb r.ps r.ts))::AE ra.x.m.b.p (rowsL Ac (Gw r.ps.length r.ts))::AE ra.x.m.c.p (rowsL Ac (H2 r.ps.length r.ts r.ss))::AE ra.q.p (inL (F3 r.ps.length r.ts))::AU b2 30 (Cy m)::AE m.a.p (rowsL BC r.ps)::AE m.b.p (rowsL Ac r.ts)::AE m.c.p (rowsL Ac r.ss)::AU b1 26 (Fb r)::AE r.a.p (rowsL Fe r.ds)::AE r.b.p (rowsL Ac r.ts)::AE r.c.p (rowsL Ac r.ss)::((Ca o1.rs++Ca rb.x.rs)++Ca o2.rs))) (show List.Perm _ (AE o2.a.p (rowsL B0 o2.rs)::AE o2.b.p (rowsL Ac r.ts)::AE o2.c.p (rowsL Ac r.ss)::AU b4 39 (Dp rb.x)::AE rb.q.p (inL (F3 r.ps.length r.ts))::AE rb.x.a.p (rowsL B0 rb.x.rs)::AE rb.x.b.p (rowsL Ac (Gw r.ps.length r.ts))::AE rb.x.c.p (rowsL Ac (H2 r.ps.length r.ts r.ss))::AE o1.a.p (rowsL B0 o1.rs)::AE o1.b.p (rowsL Ac r.ts)::AE o1.c.p (rowsL Ac r.ss)::AU b3 30 (Cy ra.x.m)::AE ra.x.m.a.p (rowsL BC (Hb r.ps r.ts))::AE ra.x.m.b.p (rowsL Ac (Gw r.ps.length r.ts))::AE ra.x.m.c.p (rowsL Ac (H2 r.ps.length r.ts r.ss))::AE ra.q.p (inL (F3 r.ps.length r.ts))::AU b2 30 (Cy m)::AE m.a.p (rowsL BC r.ps)::AE m.b.p (rowsL Ac r.ts)::AE m.c.p (rowsL Ac r.ss)::AU b1 26 (Fb r)::AE r.a.p (rowsL Fe r.ds)::AE r.b.p (rowsL Ac r.ts)::AE r.c.p (rowsL Ac r.ss)::((Ca o1.rs++Ca rb.x.rs)++Ca o2.rs)) from Lz [AE o2.a.p (rowsL B0 o2.rs),AE o2.b.p (rowsL Ac r.ts),AE o2.c.p (rowsL Ac r.ss)] (Ca o2.rs) (AU b4 39 (Dp rb.x)::AE rb.q.p (inL (F3 r.ps.length r.ts))::AE rb.x.a.p (rowsL B0 rb.x.rs)::AE rb.x.b.p (rowsL Ac (Gw r.ps.length r.ts))::AE rb.x.c.p (rowsL Ac (H2 r.ps.length r.ts r.ss))::AE o1.a.p (rowsL B0 o1.rs)::AE o1.b.p (rowsL Ac r.ts)::AE o1.c.p (rowsL Ac r.ss)::AU b3 30 (Cy ra.x.m)::AE ra.x.m.a.p (rowsL BC (Hb r.ps r.ts))::AE ra.x.m.b.p (rowsL Ac (Gw r.ps.length r.ts))::AE ra.x.m.c.p (rowsL Ac (H2 r.ps.length r.ts r.ss))::AE ra.q.p (inL (F3 r.ps.length r.ts))::AU b2 30 (Cy m)::AE m.a.p (rowsL BC r.ps)::AE m.b.p (rowsL Ac r.ts)::AE m.c.p (rowsL Ac r.ss)::AU b1 26 (Fb r)::AE r.a.p (rowsL Fe r.ds)::AE r.b.p (rowsL Ac r.ts)::AE r.c.p (rowsL Ac r.ss)::(Ca o1.rs++Ca rb.x.rs))) (OkE.back (sl (sl (sl (sk (sk (sk (sk (sk (sk (sk (sk (sk (sk (sk (sk (sk (sk (sk (sk (sk (sk (sk (sk (sk (List.sublist_append_left _ _))))))))))))))))))))))))) (OkE.imp O (OkL.call (v:=(Value.bool true)) (AB O) (Ap (args:=[(aG (Cy m)),(aG (Dp o2))]) O O call14) (λw hw=>(by have h9:=M7 (S:=SA) m o2 (λi h=>r.pw i h) (λi h=>Nat.le_trans (SW r i) (by decide)) (by rw [r.pl];omega) Z Z w (Yw (inS (S:=S) hw 17 O lm)) (PH (x:=o2) hw 0 O (λz hz=>List.mem_append_right [AE o2.a.p (rowsL B0 o2.rs),AE o2.b.p (rowsL Ac r.ts),AE o2.c.p (rowsL Ac r.ss),AU b4 39 (Dp rb.x),AE rb.q.p (inL (F3 r.ps.length r.ts)),AE rb.x.a.p (rowsL B0 rb.x.rs),AE rb.x.b.p (rowsL Ac (Gw r.ps.length r.ts)),AE rb.x.c.p (rowsL Ac (H2 r.ps.length r.ts r.ss)),AE o1.a.p (rowsL B0 o1.rs),AE o1.b.p (rowsL Ac r.ts),AE o1.c.p (rowsL Ac r.ss),AU b3 30 (Cy ra.x.m),AE ra.x.m.a.p (rowsL BC (Hb r.ps r.ts)),AE ra.x.m.b.p (rowsL Ac (Gw r.ps.length r.ts)),AE ra.x.m.c.p (rowsL Ac (H2 r.ps.length r.ts r.ss)),AE ra.q.p (inL (F3 r.ps.length r.ts)),AU b2 30 (Cy m),AE m.a.p (rowsL BC r.ps),AE m.b.p (rowsL Ac r.ts),AE m.c.p (rowsL Ac r.ss),AU b1 26 (Fb r),AE r.a.p (rowsL Fe r.ds),AE r.b.p (rowsL Ac r.ts),AE r.c.p (rowsL Ac r.ss)] (List.mem_append_right _ hz))) (hT.below hw.out);rw [decide_eq_true ⟨rfl,rfl,rfl⟩] at h9;exact h9)) O (AI O) (OkE.back (sl (sl (sl (sk (sk (sk (sk (sk (sk (sk (sk (sk (sk (sk (sk (sk (sk (sk (sk (sk (sk (sk (sk (sk (List.sublist_append_left _ _))))))))))))))))))))))))) (Al (v:=(Value.bool true)) O (AO O O) (BV O (OkE.imp O (OkL.call (v:=(Value.bool true)) (AB O) (Ap (args:=[]) O O call9) (λw hw=>KM w) O (AI O) (OkE.back (sl (sl (sl (sk (sk (sk (sk (sk (sk (sk (sk (sk (sk (sk (sk (sk (sk (sk (sk (sk (sk (sk (sk (sk (List.sublist_append_left _ _))))))))))))))))))))))))) ?_))))))))))
  exact Al (v:=(Value.bool true)) O (AO O O) (pS' O (OkE.nil (OkQ.subF (sL [1,2,3,4,7] O) (OkQ.then_ (OkC.ret (ret_one O (rd_tmp (v:=(Value.bool true)) O) (λw hw=>⟨rfl,hw.out⟩)))))))
end
section
open Go Go.RowKit Go.ChangeShapes Go.WideShapes Go.ChangeAt
theorem WU:laidOutB Tryz.prog=true:=by kernel_rfl
theorem TQ:ownKnob Tryz.prog.godebug=none:=by kernel_rfl
theorem G5 {H:Type} {enc:TypeId×Value->H} {P:Program} (hl:laidOutB P=true) {W W':World} {sp:Nat->Bool} (hb:GG W.heap.size W W') :
    ∀{ts:List TypeId} {vs:List Value} {ds:List (DataW H)} {ps:List MemPlace},(∀t∈ts,P.readableRec t=true/\t<P.types.size)->DataW.TrodAll enc P W 0 (λ_=>true) true ts vs ds ps ->
      (∀p∈ps,p.block<W.heap.size)->(∀p∈ps,sp p.block=true)->DataW.TrodAll enc P W' 0 sp true ts vs ds ps
  | [],_,_,_,_,h,_,_=>by
    obtain ⟨rfl,rfl,rfl⟩:=trodAll_nil h
    exact trodAll_mk0
  | t::ts,_,_,_,hr,h,hlt,hs=>by
    obtain ⟨v,vs1,d,ds1,a,b,rfl,rfl,rfl,h1,h2⟩:=trodAll_cons h
    exact ⟨a,b,WideElems.Trod_stays hl (hr t (by simp)).1 (hr t (by simp)).2 h1 (λx hx=>hb.same (hlt x (by simp [hx]))) (λx hx=>hs x (by simp [hx])),
      G5 hl hb (λu hu=>hr u (by simp [hu])) h2 (λp hp=>hlt p (by simp [hp])) (λp hp=>hs p (by simp [hp])),rfl⟩
theorem Sv {H:Type} {enc:TypeId×Value->H} {P:Program} {f:Func} {s:ChangeSpec} {apart fresh handsOn again:Bool} {W W':World} {args:Array Value} {ds:List (DataW H)} {Cl:List MemPlace} {tb:TypeId}
    (hW:DataW.Whole enc P f.params.toList s.vars apart W args.toList ds [] Cl) (hv:s.vars=[]) (hfn:s.fn H ds=({ results:=[.lit (.bool true)],args:=ds }:Left H))
    (hrt:f.resultTypes=#[tb]) (hu:P.underlying tb=some .bool) (hb:GG W.heap.size W W') (hl:laidOutB P=true) (hr:∀t∈f.params.toList,P.readableRec t=true/\t<P.types.size) :
    s.post enc P f apart fresh handsOn again W args (.bool true) W':=by
  have hlt:∀p∈Cl,p.block<W.heap.size:=λp hp=>hW.lt p hp
  have hW2:=hW
  obtain ⟨pa,q,hA,hV,he,hz,hn⟩:=hW2
  rw [hv] at hV
  obtain ⟨_,rfl⟩:=trodVars_none hV
  simp only [List.append_nil] at he
  subst he
  have hres:∀(b:Nat) (sp:Nat->Bool) (hd:Bool),DataW.TrodAll enc P W' b sp hd f.resultTypes.toList ((Value.bool true).resultList f.resultTypes.size) (s.fn H (ds++[])).results []:=λb sp hd=>by
    rw [hrt,List.append_nil,hfn]
    exact trodAll_mk1 (shut_bool hu _)
  have hargs:∀sp:Nat->Bool,(∀p∈Cl,sp p.block=true)->DataW.TrodAll enc P W' 0 sp true f.params.toList args.toList (s.fn H (ds++[])).args Cl:=λsp hs=>by
    rw [List.append_nil,hfn]
    exact G5 hl hb hr hA hlt hs
  have hvars:∀sp:Nat->Bool,DataW.TrodVars enc P W' sp s.vars (s.fn H (ds++[])).vars []:=λsp=>by
    rw [List.append_nil,hfn,hv];rfl
  have hold:∀p∈Cl,(λb=>decide (b<W.heap.size)) p.block=true:=λp hp=>by simpa using hlt p hp
  refine ⟨ds,[],Cl,[],Cl,[],hW,hres _ _ _,hargs _ hold,hvars _,World.keptBut_mono (λp hp=>⟨hp,Or.inr (by simpa using hp)⟩) (hb.frame (·∈Cl)),λ_=>⟨?_,_,_,([]++Cl)++[],⟨[]++Cl,[],trodAll_append (hargs _ (λ_ _=>rfl)) (hres _ _ _),hvars _,rfl,?_,?_⟩,?_⟩⟩
  · exact ok_one hrt O (okWide_bool_mk hu _)
  · intro b off hp
    have hp':MemPlace.cell b off∈Cl:=by simpa using hp
    rw [hb.frozen (hlt _ hp')]
    exact hz b off hp'
  · intro ha
    have:=hn ha
    simpa using this
  · intro p hp _
    simpa using hp
end
section
open Go Go.RowKit Go.WideShapes
section
variable {P:Program} {w:World} {r:Reach} {base:Nat}
theorem O4 {u e:TypeId} {v:Value} (hu:P.underlying u=some (.slice e)) (h:Cell.okWide P w r base u v) :
    v=.slice none 0 0\/∃a len cap,v=.slice (some a) len cap/\len<=cap/\a.spot=none/\∃cur T fr,w.heap[a.block]?=some (.cells cur T fr):=by
  simp only [Cell.okWide,hu] at h
  unfold Cell.ok at h
  rw [hu] at h
  cases v with
  | slice p len cap =>
    cases p with
    | none =>
      left
      split at h<;>simp_all
    | some a =>
      right
      have h':len<=cap/\(cap:Int)<=IntKind.i64.max/\w.has P r base a e cap:=h
      obtain ⟨h1,_,_,h2,row,cells,h3,_⟩:=h'
      refine ⟨a,len,cap,rfl,h1,h2,?_⟩
      unfold World.shape? at h3
      split at h3
      · rename_i cur T fr e;exact ⟨cur,T,fr,e⟩
      · cases h3
  | _=>simp at h
end
end
end Go.Proofs.YtpolhpjiahbidaaGreatDoor
