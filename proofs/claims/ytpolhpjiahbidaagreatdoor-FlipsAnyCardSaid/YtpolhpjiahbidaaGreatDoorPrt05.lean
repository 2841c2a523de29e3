import Derived.Scope
import Derived.Test.YtpolhpjiahbidaaGreatDoorPrt04
namespace Go.Proofs.YtpolhpjiahbidaaGreatDoor
open Go Go.RowKit Go.Proofs.Tryz
open Go.Value renaming slice→qz,bool→qa
set_option linter.unusedVariables false
set_option linter.unusedSimpArgs false
section
set_option maxRecDepth 100000
theorem ML  :Instr.fill ([(0,1),(1,1)].toArray[·]?) (AT 0).toArray []=some (AT 0).toArray:=by kernel_rfl
theorem QM (a b:Nat) (ha:nw a<=1099511627776) (hb:nw b<=1099511627776) (w:World)  :Calls prog 204 #[(aG (AT a)),(aG (AT b))] w (AX w (Value.tuple #[(aG (AT (a-b))),(qa (decide (b<=a)))])):=by
 have hla:=CK a
 have hlb:=CK b
 have hpa:=ZQ a
 refine AS (args:=[(aG (AT a)),(aG (AT b))]) func204 O O (leB O) (zM (sL [0,1] O) (q4 (BG (cs:=AT a) O λb1=>BG (cs:=AT b) O λb2=>al Gl O λb3=>asg' O (q6 (sL [2,3,4,5] O) (q4 (An 2 B3 O (An 1 B3 O (ck' call242 (Uq a b Z Z) O ?_))))))))
 refine st' (AW (c:=(decide ((DO a b)<(0:Int)))) O O O) O (oNl' (zF (sL [2,3,4,5,14] O) (zC ?_)))
 refine zO O (λhc0=>?_) (λhc0=>?_)
 ·replace hc0:=xR hc0
  rw [Fq] at hc0
  exact q4 (st' (v:=(aG (AT 0))) (AO (zs:=AT 0) (vs:=AT 0) (pv:=[]) (places:=[(0,1),(1,1)]) zeroValue71 underlying71 (λw=>by simp [sizeOf9,sizeOf69]) O (ML )) O (zK (k:=15) (u:=(aG (AT (a-b)))) O (by rw [show a-b=0 by omega]) (Aj O sizeOf71 O (asg' O (oNl' (zF (sL [2,3,4,5] O) (zC (zH (zI (BR O (Ah (i:=0) (cs:=AT (a-b)) O O isAgg71 sizeOf71 O) (rd_tmp (v:=(qa false)) O) (λw hw=>⟨by rw [xq (show ¬b<=a by omega)],hw.out⟩)))))))))))
 ·replace hc0:=xQ hc0
  rw [Fq] at hc0
  have hnb:nw b<=nw a:=Ct Z
  refine zJ (q1 (q4 (st' (v:=(pP b1 1)) (AA O underlying71 O sizeOf9 O) O (A_ 2 (Value.string (Bs a)) UV O (st' (BY (c:=(decide (a<18446744073709551616))) O O Cd) O (oNl' (zF (sL [2,3,4,5,18] O) (zC ?_))))))))
  refine zO O (λhc1=>?_) (λhc1=>?_)
  ·replace hc1:=xR hc1
   refine q4 (st' (v:=(pP b1 0)) (AA O underlying71 O sizeOf69 O) O (A_ 2 (vK .u64 (B7 a)) Gz O (zK (k:=20) (u:=(vK .u64 a)) O (by rw [Bm hc1]) (st' (v:=(pP b2 0)) (AA O underlying71 O sizeOf69 O) O (A_ 1 (vK .u64 (B7 b)) Gz O (zK (k:=22) (u:=(vK .u64 b)) O (by rw [Bm Z]) (st' (Bc (c:=((a-b:Nat):Int)) O O (Iz (a:=a) (b:=b) Z Z)) O (st' (v:=(aG ([(vK .u64 (a-b)),(Value.string (Bs 0))]))) (AO (zs:=AT 0) (vs:=[(vK .u64 (a-b)),(Value.string (Bs 0))]) (pv:=[(0,(vK .u64 (a-b)))]) (places:=[(0,1),(1,1)]) zeroValue71 underlying71 (λw=>by simp [sizeOf9,sizeOf69]) O O) O (zK (k:=24) (u:=(aG (AT (a-b)))) O (by rw [D9 Z];rfl) (Aj O sizeOf71 O (asg' O ?_)))))))))))
   exact oNl' (zF (sL [2,3,4,5] O) (zC (zH (zI (BR O (Ah (i:=0) (cs:=AT (a-b)) O O isAgg71 sizeOf71 O) (rd_tmp (v:=(qa true)) O) (λw hw=>⟨by rw [xr (show b<=a by omega)],hw.out⟩))))))
  ·replace hc1:=xQ hc1
   have hpad:Ay a=AP a:=if_neg hc1
   refine zJ (q1 (CE [(0,true),(2,true),(1,false),(3,false),(4,true),(5,true)] sr (C3 2 B3 O (C3 1 B3 O (zL O (yH (V:=λb4=>(qz (jk b4) (nw a) ((Ay a).length))) (T:=92) (cs:=Aq (Ay a)) (AM O) (Ak (args:=[(aG (AT a))]) O O call187) (λw hw=>DH a Z w) O (leB O) λb4=>zG (sl sr) (zL O (yH (V:=λb5=>(qz (jk b5) (nw b) ((Ay b).length))) (T:=92) (cs:=Aq (Ay b)) (AM O) (Ak (args:=[(aG (AT b))]) O O call187) (λw hw=>DH b Z w) O (leB O) λb5=>zG (sl (sl sr)) (pS' O ?_)))))))))
   refine pS' O (zT (zF (sL [2,3,4,5,6,7] O) (q2 (asg' O (oNl' (q1 (q4 (AJ O (st' (v:=(vN (nw a))) (AD O underlying255) O (AJ O (oNl' ?_)))))))))))
   refine zF (sL [2,3,4,5,6,7,8,30,31] O) (zC (zN ?_))
   refine yW (tg λ(i:Nat) (os:List Nat) (c:Nat)=>i<=nw a/\os.length=nw a/\W32 os/\c<=1/\val os+val ((AP b).take i)=a+c*4294967296^i) (tg λ(i:Nat) (os:List Nat) (c:Nat)=>[(4,(pP b3 0)),(5,(qa false)),(6,(qz (jk b4) (nw a) ((Ay a).length))),(7,(qz (jk b5) (nw b) ((Ay b).length))),(30,(vN (nw a))),(31,(vN i)),(8,(vK .u32 c))]) (tg λ(i:Nat) (os:List Nat) (c:Nat)=>[AU b5 92 (Aq (Ay b)),AU b4 92 (Aq os),AU b3 71 (AT 0),AU b2 71 (AT b),AU b1 71 (AT a)]) (tg λ(i:Nat) (os:List Nat) (c:Nat)=>nw a-i) 0 (Ay a) 0 (⟨xu _,by rw [hpad];rfl,CO a,Z,by rw [Sy];simp [val]⟩) (sF O) sr (λi os c hJ=>?_)
   obtain ⟨hi,hl,hw32,hcc,hv⟩:=hJ
   refine q4 (st' (AW (c:=(decide (i<(nw a)))) O O (B_ (a:=i) (b:=nw a))) O (oNl' (q1 ?_)))
   refine zO O (λhc2=>?_) (λhc2=>?_)
   ·replace hc2:=xR hc2
    refine zJ (q1 (zN (q4 (AJ O (asg' O (q3 (sL [4,5,6,7,30,31,8,9] O) (asg' O (oNl' (q1 (q4 (AJ O ?_)))))))))))
    refine AJ O (st' (v:=(vN (nw b))) (AD O underlying255) O (st' (AW (c:=(decide (i<(nw b)))) O O (B_ (a:=i) (b:=nw b))) O (oNl' (zF (sL [4,5,6,7,30,31,8,9,10,37] O) (zC ?_)))))
    refine yy (tg True) (tg [(4,(pP b3 0)),(5,(qa false)),(6,(qz (jk b4) (nw a) ((Ay a).length))),(7,(qz (jk b5) (nw b) ((Ay b).length))),(30,(vN (nw a))),(31,(vN i)),(8,(vK .u32 c)),(9,(vN i)),(10,(vK .u32 ((AP b).getD i 0)))]) (tg [AU b5 92 (Aq (Ay b)),AU b4 92 (Aq os),AU b3 71 (AT 0),AU b2 71 (AT b),AU b1 71 (AT a)]) ?_ ?_
    ·refine zO O (λhc3=>?_) (λhc3=>?_)
     ·replace hc3:=xR hc3
      refine zQ (AJ O (AJ O (st' (v:=(pP b5 i)) (AL (j:=i) O O underlying255 sizeOf92 O Z jX) O ?_)))
      have hx1:(Ay b).getD i 0<4294967296:=W32.getD (CO b) i
      exact st' (AE (i:=0) (v:=(vK .u32 ((Ay b).getD i 0))) O O isAgg92 (BJ (xs:=Ay b) (j:=i) Z)) O (zK (k:=41) (u:=(vK .u32 ((AP b).getD i 0))) O (by rw [Db hc3]) (asg' O (oNl' (zF (sL [4,5,6,7,30,31,8,9,10] O) (yP  (trivial) (sF O) sr)))))
     ·replace hc3:=xQ hc3
      exact zJ (yj (k:=10) (u:=Value.int .u32 (((AP b).getD i 0:Nat):Int)) O (by rw [E8 hc3];rfl) (yP  (trivial) (sF O) sr))
    ·intro hJ
     refine zC (zQ (AJ O (AJ O (AJ O (AJ O (st' (v:=(pP b4 i)) (AL (j:=i) O O underlying255 sizeOf92 O Z jX) O ?_))))))
     have hx2:os.getD i 0<4294967296:=W32.getD hw32 i
     refine st' (AE (i:=1) (v:=(vK .u32 (os.getD i 0))) O O isAgg92 (BJ (xs:=os) (j:=i) Z)) O (AJ O (AJ O ?_))
     have hyb:=(Bz b).getD i
     refine ck' call244 (Lr (os.getD i 0) ((AP b).getD i 0) c _ Z Z Z O) O (AJ O (st' (AK (v:=(vK .u32 (((os.getD i 0)+(4294967296-((AP b).getD i 0))+(4294967296-c))%4294967296))) O O) O (st' (AK (v:=(vK .u32 (Jh (os.getD i 0) (((AP b).getD i 0)+c)))) O O) O (st' (v:=(pP b4 i)) (AL (j:=i) O O underlying255 sizeOf92 O Z jX) O (z8 (i:=1) (off:=i) (vs:=[(vK .u32 (((os.getD i 0)+(4294967296-((AP b).getD i 0))+(4294967296-c))%4294967296))]) (cs':=Aq (os.set i (((os.getD i 0)+(4294967296-((AP b).getD i 0))+(4294967296-c))%4294967296))) (L':=[AU b5 92 (Aq (Ay b)),AU b4 92 (Aq (os.set i (((os.getD i 0)+(4294967296-((AP b).getD i 0))+(4294967296-c))%4294967296))),AU b3 71 (AT 0),AU b2 71 (AT b),AU b1 71 (AT a)]) (AM O) O O O O O sizeOf92 O (C2 (BW _) Z) (CR Z) O (asg' O (oNl' (zF (sL [4,5,6,7,30,31,8,9,10] O) (zP (zC (zQ ?_)))))))))))
     exact st' (AV (c:=((i+1:Nat):Int)) O O (AY (a:=i) (b:=1) Z)) O (AJ O (oNl' (zF (sL [4,5,6,7,30,31,8,9,10] O) (yN (i+1) (os.set i ((os.getD i 0+(4294967296-(AP b).getD i 0)+(4294967296-c))%4294967296)) (Jh (os.getD i 0) ((AP b).getD i 0+c)) (⟨Z,by rw [List.length_set];exact hl,W32.set hw32 Z i,QW _ _,Xi hl hc2 hw32 (Bz b) hcc hv⟩) Z (sF O) sr))))
   ·replace hc2:=xQ hc2
    refine zY (zR (yF (zV (q2 (AJ O (Bx call206 (λw hw=>Jo _ (nw a) ((Ay a).length) os hw32 (by first|omega|(rw [rowN_length];omega)|simp|(simp;omega)) (by first|omega|simp|(simp;omega)) (by first|omega|simp|(simp;omega)) w (hw.get (i:=1) O)) O (zK (k:=57) (u:=(aG (AT (a-b)))) O (by rw [List.take_of_length_le (show os.length<=nw a by omega),Xh (X:=a) (Y:=b) (n:=nw a) (c:=c) (i:=i) hl hw32 Z Z (by rw [<-hv,Dh Z]) (Bp a)]) (E_ O sizeOf71 O (asg' O (oNl' (zF (sL [4,5,6,7,30,31,8] O) ?_)))))))))))
    exact zC (zH (BR O (Ah (i:=2) (cs:=AT (a-b)) O O isAgg71 sizeOf71 O) (rd_tmp (v:=(qa true)) O) (λw hw=>⟨by rw [xr (show b<=a by omega)],hw.out⟩)))
theorem QK (a b:Nat) (ha:nw a<=1099511627776) (hb:nw b<=1099511627776) (w:World)  :Calls prog 153 #[(aG (AT a)),(aG (AT b))] w (AX w (aG (AT (a*b)))):=by
 have hla:=CK a
 have hlb:=CK b
 refine AS (args:=[(aG (AT a)),(aG (AT b))]) func153 O O (leB O) (zM (sL [0,1] O) (q4 (BG (cs:=AT a) O λb1=>BG (cs:=AT b) O λb2=>al Gl O λb3=>q6 (sL [2,3,4] O) (q4 (st' (v:=(pP b1 1)) (AA O underlying71 O sizeOf9 O) O (A_ 2 (Value.string (Bs a)) UV O (st' (BY (c:=(decide (a<18446744073709551616))) O O Cd) O (AJ O ?_))))))))
 refine zg (FM:=[(2,(pP b1 0)),(3,(pP b2 0)),(4,(pP b3 0)),(15,(pP b1 1)),(16,(Value.string (Bs a))),(17,(qa (decide (a<18446744073709551616)))),(18,(qa (decide (a<18446744073709551616)))),(22,(qa ((decide (a<18446744073709551616))&&(decide (b<18446744073709551616)))))]) (LM:=[AU b3 71 (AT 0),AU b2 71 (AT b),AU b1 71 (AT a)]) 4 ?_ ?_
 ·rcases xO (decide (a<18446744073709551616)) with hg1|hg1
  ·refine zK (k:=18) (u:=qa true) O (by rw [hg1]) ?_
   have hg1':=xR hg1
   exact Au (v:=(pP b2 1)) O (AA O underlying71 O sizeOf9 O) (Au (v:=(Value.string (Bs b))) O (AE (i:=1) (v:=(Value.string (Bs b))) O O UV.a O) (Au (v:=(qa (decide (b<18446744073709551616)))) O (BY (c:=(decide (b<18446744073709551616))) O O Cd) (st' (v:=(qa (decide (b<18446744073709551616)))) (ex_pick_true O O) O (oNl' (zS Bi (xP _))))))
  ·refine zK (k:=18) (u:=qa false) O (by rw [hg1]) ?_
   have hg1':=xQ hg1
   exact Aw O (Aw O (Aw O (st' (v:=(qa false)) (AI O O) O (oNl' (zS Bi (xP _))))))
 refine oNl' (zF (sL [2,3,4,22] O) (zC ?_))
 refine zO O (λhc0=>?_) (λhc0=>?_)
 ·simp only [jK] at hc0
  refine q4 (st' (v:=(pP b1 0)) (AA O underlying71 O sizeOf69 O) O (A_ 2 (vK .u64 (B7 a)) Gz O (zK (k:=25) (u:=(vK .u64 a)) O (by rw [Bm hc0.1]) (st' (v:=(pP b2 0)) (AA O underlying71 O sizeOf69 O) O (A_ 1 (vK .u64 (B7 b)) Gz O ?_)))))
  have hhi:a*b/18446744073709551616<18446744073709551616:=Nat.div_lt_of_lt_mul (Nat.mul_lt_mul'' hc0.1 hc0.2)
  refine zK (k:=27) (u:=(vK .u64 b)) O (by rw [Bm hc0.2]) (ck' call205 (PZ a b Z Z) O (AJ O (st' (AK (v:=(vK .u64 (a*b/18446744073709551616))) O O) O (st' (AK (v:=(vK .u64 (a*b%18446744073709551616))) O O) O (asg' O (asg' O (q3 (sL [2,3,4,5,6] O) (AJ O (st' (A6 (c:=(((a*b%18446744073709551616)%4294967296:Nat):Int)) O underlying69 underlying92 Ez) O (AJ O (st' (DD (s:=32) (c:=(((a*b%18446744073709551616)/4294967296:Nat):Int)) O O O jY (Gk (a:=a*b%18446744073709551616) (s:=32))) O ?_)))))))))))
  refine st' (A6 (c:=(((a*b%18446744073709551616)/4294967296:Nat):Int)) O underlying69 underlying92 (C4 Z)) O (AJ O (st' (A6 (c:=(((a*b/18446744073709551616)%4294967296:Nat):Int)) O underlying69 underlying92 Ez) O (AJ O (st' (DD (s:=32) (c:=(((a*b/18446744073709551616)/4294967296:Nat):Int)) O O O jY (Gk (a:=a*b/18446744073709551616) (s:=32))) O (st' (A6 (c:=(((a*b/18446744073709551616)/4294967296:Nat):Int)) O underlying69 underlying92 (C4 Z)) O (zn (V:=λb4=>(qz (jk b4) 4 4)) (T:=92) (cs:=Aq ([(a*b%18446744073709551616)%4294967296,(a*b%18446744073709551616)/4294967296,(a*b/18446744073709551616)%4294967296,(a*b/18446744073709551616)/4294967296])) (AM O) (BH (cs:=Aq ([(a*b%18446744073709551616)%4294967296,(a*b%18446744073709551616)/4294967296,(a*b/18446744073709551616)%4294967296,(a*b/18446744073709551616)/4294967296])) (pv:=[(0,(vK .u32 ((a*b%18446744073709551616)%4294967296))),(1,(vK .u32 ((a*b%18446744073709551616)/4294967296))),(2,(vK .u32 ((a*b/18446744073709551616)%4294967296))),(3,(vK .u32 ((a*b/18446744073709551616)/4294967296)))]) underlying255 sizeOf92 zeroValue92 jY jY O jV) O (leB O) λb4=>Bx call206 (λw hw=>Jo _ 4 4 ([(a*b%18446744073709551616)%4294967296,(a*b%18446744073709551616)/4294967296,(a*b/18446744073709551616)%4294967296,(a*b/18446744073709551616)/4294967296]) (W32.cons Z (W32.cons Z (W32.cons Z (W32.cons Z (W32.nil))))) (by first|omega|(rw [rowN_length];omega)|simp|(simp;omega)) (by first|omega|simp|(simp;omega)) (by first|omega|simp|(simp;omega)) w (hw.get (i:=0) O)) O (zK (k:=42) (u:=(aG (AT (a*b)))) O (by rw [show ∀x y z t:Nat,[x,y,z,t].take 4=[x,y,z,t] from λ_ _ _ _=>rfl,cw Z hhi,show a*b%18446744073709551616+a*b/18446744073709551616*18446744073709551616=a*b by omega]) (CP O sizeOf71 O (oNl' (zF (sL [2,3,4] O) ?_))))))))))
  exact zC (zH (zI (ret_one O (Ah (i:=1) (cs:=AT (a*b)) O O isAgg71 sizeOf71 O) (λw hw=>⟨rfl,hw.out⟩))))
 ·simp only [jK] at hc0
  refine zJ (q1 (CE [(0,true),(2,true),(1,false),(3,false),(4,true),(5,true)] sr (C3 2 B3 O (C3 1 B3 O (zL O (yH (V:=λb4=>(qz (jk b4) (nw a) ((Ay a).length))) (T:=92) (cs:=Aq (Ay a)) (AM O) (Ak (args:=[(aG (AT a))]) O O call187) (λw hw=>DH a Z w) O (leB O) λb4=>zG (sl sr) (zL O (yH (V:=λb5=>(qz (jk b5) (nw b) ((Ay b).length))) (T:=92) (cs:=Aq (Ay b)) (AM O) (Ak (args:=[(aG (AT b))]) O O call187) (λw hw=>DH b Z w) O (leB O) λb5=>zG (sl (sl sr)) (pS' O ?_)))))))))
  refine pS' O (zT (zF (sL [2,3,4,7,8] O) (q2 (AJ O (st' (v:=(vN (nw a))) (AD O underlying255) O (AJ O (st' (v:=(vN (nw b))) (AD O underlying255) O (st' (AV (c:=(((nw a)+(nw b):Nat):Int)) O O (AY (a:=nw a) (b:=nw b) Z)) O (zn (V:=λb6=>(qz (jk b6) ((nw a)+(nw b)) ((nw a)+(nw b)))) (T:=92) (cs:=Aq (List.replicate ((nw a)+(nw b)) 0)) (AM O) (Da (m:=(nw a)+(nw b)) (c:=(nw a)+(nw b)) O O Z Z) O (leB O) λb6=>asg' O (q6 (sL [2,3,4,7,8,9] O) ?_))))))))))
  refine q4 (AJ O (st' (v:=(vN (nw a))) (AD O underlying255) O (AJ O (oNl' (zC (zN ?_))))))
  refine yM (tg λ(i:Nat) (os:List Nat)=>i<=nw a/\os.length=nw a+nw b/\W32 os/\val os=val ((AP a).take i)*b) (tg λ(i:Nat) (os:List Nat)=>[(4,(pP b3 0)),(8,(qz (jk b5) (nw b) ((Ay b).length))),(9,(qz (jk b6) ((nw a)+(nw b)) ((nw a)+(nw b)))),(53,(qz (jk b4) (nw a) ((Ay a).length))),(54,(vN (nw a))),(55,(vN i))]) (tg λ(i:Nat) (os:List Nat)=>[AU b6 92 (Aq os),AU b5 92 (Aq (Ay b)),AU b4 92 (Aq (Ay a)),AU b3 71 (AT 0),AU b2 71 (AT b),AU b1 71 (AT a)]) (tg λ(i:Nat) (os:List Nat)=>nw a-i) 0 (List.replicate (nw a+nw b) 0) (⟨xu _,by simp,W32.zeros _,by rw [Ej];simp [val]⟩) (sF O) sr (λi os hJ=>?_)
  obtain ⟨hi,hl,hw32,hv⟩:=hJ
  refine q4 (st' (AW (c:=(decide (i<(nw a)))) O O (B_ (a:=i) (b:=nw a))) O (oNl' (q1 ?_)))
  refine zO O (λhc1=>?_) (λhc1=>?_)
  ·replace hc1:=xR hc1
   refine zJ (q1 (zN (q4 (AJ O (st' (v:=(pP b4 i)) (AL (j:=i) O O underlying255 sizeOf92 O Z jX) O ?_)))))
   have hx1:(Ay a).getD i 0<4294967296:=W32.getD (CO a) i
   refine st' (AE (i:=2) (v:=(vK .u32 ((Ay a).getD i 0))) O O isAgg92 (BJ (xs:=Ay a) (j:=i) Z)) O (zK (k:=59) (u:=(vK .u32 ((AP a).getD i 0))) O (by rw [Db hc1]) (asg' O (asg' O (q3 (sL [4,8,9,53,54,55,10,11] O) (asg' O (oNl' (q1 (q4 (AJ O (st' (v:=(vN (nw b))) (AD O underlying255) O (AJ O ?_)))))))))))
   refine oNl' (zC (zN ?_))
   refine yW (tg λ(k:Nat) (xs:List Nat) (c:Nat)=>k<=nw b/\xs.length=nw a+nw b/\W32 xs/\c<4294967296/\(∀j,i+nw b<=j->xs.getD j 0=0)/\val xs+c*4294967296^(i+k)=val ((AP a).take i)*b+(AP a).getD i 0*val ((AP b).take k)*4294967296^i) (tg λ(k:Nat) (xs:List Nat) (c:Nat)=>[(4,(pP b3 0)),(8,(qz (jk b5) (nw b) ((Ay b).length))),(9,(qz (jk b6) ((nw a)+(nw b)) ((nw a)+(nw b)))),(53,(qz (jk b4) (nw a) ((Ay a).length))),(54,(vN (nw a))),(55,(vN i)),(10,(vN i)),(11,(vK .u32 ((AP a).getD i 0))),(60,(qz (jk b5) (nw b) ((Ay b).length))),(61,(vN (nw b))),(62,(vN k)),(12,(vK .u64 c))]) (tg λ(k:Nat) (xs:List Nat) (c:Nat)=>[AU b6 92 (Aq xs),AU b5 92 (Aq (Ay b)),AU b4 92 (Aq (Ay a)),AU b3 71 (AT 0),AU b2 71 (AT b),AU b1 71 (AT a)]) (tg λ(k:Nat) (xs:List Nat) (c:Nat)=>nw b-k) 0 os 0 (⟨xu _,hl,hw32,Z,Rt hv,by rw [hv];simp [val]⟩) (sF O) sr (λk xs c hJ=>?_)
   obtain ⟨hk,hl2,hw2,hcc,h02,hv2⟩:=hJ
   refine q4 (st' (AW (c:=(decide (k<(nw b)))) O O (B_ (a:=k) (b:=nw b))) O (oNl' (q1 ?_)))
   refine zO O (λhc2=>?_) (λhc2=>?_)
   ·replace hc2:=xR hc2
    refine zJ (q1 (zN (q4 (AJ O (st' (v:=(pP b5 k)) (AL (j:=k) O O underlying255 sizeOf92 O Z jX) O ?_)))))
    have hx2:(Ay b).getD k 0<4294967296:=W32.getD (CO b) k
    refine st' (AE (i:=1) (v:=(vK .u32 ((Ay b).getD k 0))) O O isAgg92 (BJ (xs:=Ay b) (j:=k) Z)) O (zK (k:=66) (u:=(vK .u32 ((AP b).getD k 0))) O (by rw [Db hc2]) (asg' O (asg' O (q3 (sL [4,8,9,53,54,55,10,11,60,61,62,12,13,14] O) (AJ O (AJ O ?_))))))
    have hwa:=(Bz a).getD i
    have hwb:=(Bz b).getD k
    have hml:=LX hwa hwb
    refine st' (A6 (c:=(((AP a).getD i 0:Nat):Int)) O underlying92 underlying69 (BT Z)) O (AJ O (st' (A6 (c:=(((AP b).getD k 0:Nat):Int)) O underlying92 underlying69 (BT Z)) O (st' (D7 (c:=((((AP a).getD i 0)*((AP b).getD k 0):Nat):Int)) O O (Fe (a:=(AP a).getD i 0) (b:=(AP b).getD k 0) Z)) O (AJ O (AJ O (AJ O (st' (AV (c:=((i+k:Nat):Int)) O O (AY (a:=i) (b:=k) Z)) O (st' (v:=(pP b6 (i+k))) (AL (j:=i+k) O O underlying255 sizeOf92 O Z jX) O ?_))))))))
    have hx3:xs.getD (i+k) 0<4294967296:=W32.getD hw2 (i+k)
    refine st' (AE (i:=0) (v:=(vK .u32 (xs.getD (i+k) 0))) O O isAgg92 (BJ (xs:=xs) (j:=(i+k)) Z)) O (st' (A6 (c:=((xs.getD (i+k) 0:Nat):Int)) O underlying92 underlying69 (BT Z)) O (st' (AV (c:=(((((AP a).getD i 0)*((AP b).getD k 0))+(xs.getD (i+k) 0):Nat):Int)) O O (Dq (a:=((AP a).getD i 0)*((AP b).getD k 0)) (b:=xs.getD (i+k) 0) Z)) O (st' (AV (c:=((c+((((AP a).getD i 0)*((AP b).getD k 0))+(xs.getD (i+k) 0)):Nat):Int)) O O (Dq (a:=c) (b:=(((AP a).getD i 0)*((AP b).getD k 0))+(xs.getD (i+k) 0)) Z)) O (asg' O (q3 (sL [4,8,9,53,54,55,10,11,60,61,62,12,13] O) (AJ O (AJ O (AJ O (st' (AV (c:=((i+k:Nat):Int)) O O (AY (a:=i) (b:=k) Z)) O (AJ O (st' (A6 (c:=(((c+((((AP a).getD i 0)*((AP b).getD k 0))+(xs.getD (i+k) 0)))%4294967296:Nat):Int)) O underlying69 underlying92 Ez) O ?_)))))))))))
    refine st' (v:=(pP b6 (i+k))) (AL (j:=i+k) O O underlying255 sizeOf92 O Z jX) O (z8 (i:=0) (off:=(i+k)) (vs:=[(vK .u32 ((c+((((AP a).getD i 0)*((AP b).getD k 0))+(xs.getD (i+k) 0)))%4294967296))]) (cs':=Aq (xs.set (i+k) ((c+((((AP a).getD i 0)*((AP b).getD k 0))+(xs.getD (i+k) 0)))%4294967296))) (L':=[AU b6 92 (Aq (xs.set (i+k) ((c+((((AP a).getD i 0)*((AP b).getD k 0))+(xs.getD (i+k) 0)))%4294967296))),AU b5 92 (Aq (Ay b)),AU b4 92 (Aq (Ay a)),AU b3 71 (AT 0),AU b2 71 (AT b),AU b1 71 (AT a)]) (AM O) O O O O O sizeOf92 O (C2 (BW _) Z) (CR Z) O (oNl' (zF (sL [4,8,9,53,54,55,10,11,60,61,62,12,13] O) (zC (zQ (AJ O (st' (DD (s:=32) (c:=(((c+((((AP a).getD i 0)*((AP b).getD k 0))+(xs.getD (i+k) 0)))/4294967296:Nat):Int)) O O O jY (Gk (a:=c+((((AP a).getD i 0)*((AP b).getD k 0))+(xs.getD (i+k) 0))) (s:=32))) O (asg' O (oNl' (zF (sL [4,8,9,53,54,55,10,11,60,61,62,12,13] O) (zP ?_)))))))))))
    exact zC (zQ (st' (AV (c:=((k+1:Nat):Int)) O O (AY (a:=k) (b:=1) Z)) O (AJ O (oNl' (zF (sL [4,8,9,53,54,55,10,11,60,61,62,12,13] O) (yN (k+1) (xs.set (i+k) ((c+((AP a).getD i 0*(AP b).getD k 0+xs.getD (i+k) 0))%4294967296)) ((c+((AP a).getD i 0*(AP b).getD k 0+xs.getD (i+k) 0))/4294967296) (⟨Z,by rw [List.length_set];exact hl2,W32.set hw2 Z _,Z,GR h02 Z,Wg hl2 Z hv2⟩) Z (sF O) sr))))))
   ·replace hc2:=xQ hc2
    have hkn:k=nw b:=by omega
    have hbb:val ((AP b).take k)=b:=Dh Z
    rw [hbb] at hv2
    refine zY (zR (yF (zV (zC (zQ (AJ O (AJ O (AJ O (st' (v:=(vN (nw b))) (AD O underlying255) O (st' (AV (c:=((i+(nw b):Nat):Int)) O O (AY (a:=i) (b:=nw b) Z)) O (AJ O ?_)))))))))))
    exact st' (A6 (c:=((c:Nat):Int)) O underlying69 underlying92 (C4 Z)) O (st' (v:=(pP b6 (i+(nw b)))) (AL (j:=i+(nw b)) O O underlying255 sizeOf92 O Z jX) O (z8 (i:=0) (off:=(i+(nw b))) (vs:=[(vK .u32 c)]) (cs':=Aq (xs.set (i+(nw b)) c)) (L':=[AU b6 92 (Aq (xs.set (i+(nw b)) c)),AU b5 92 (Aq (Ay b)),AU b4 92 (Aq (Ay a)),AU b3 71 (AT 0),AU b2 71 (AT b),AU b1 71 (AT a)]) (AM O) O O O O O sizeOf92 O (C2 (BW _) Z) (CR Z) O (oNl' (zF (sL [4,8,9,53,54,55,10,11,60,61,62,12] O) (zP (zC (zQ (st' (AV (c:=((i+1:Nat):Int)) O O (AY (a:=i) (b:=1) Z)) O (AJ O (oNl' (zF (sL [4,8,9,53,54,55,10,11,60,61,62,12] O) (z6 (i+1) (xs.set (i+nw b) c) (⟨Z,by rw [List.length_set];exact hl2,W32.set hw2 hcc _,by rw [Ii hl2 Z (h02 _ (Nat.le_refl _)),<-ZF,<-hv2,<-hkn]⟩) Z (sF O) sr))))))))))))
  ·replace hc1:=xQ hc1
   refine zY (zR (zp (zV (q2 (AJ O (Bx call206 (λw hw=>Jo _ ((nw a)+(nw b)) ((nw a)+(nw b)) os hw32 (by first|omega|(rw [rowN_length];omega)|simp|(simp;omega)) (by first|omega|simp|(simp;omega)) (by first|omega|simp|(simp;omega)) w (hw.get (i:=0) O)) O (zK (k:=102) (u:=(aG (AT (a*b)))) O (by rw [List.take_of_length_le (show os.length<=nw a+nw b by omega),hv,Dh Z]) (Gt O sizeOf71 O (oNl' (zF (sL [4,8,9,53,54,55] O) (zC ?_)))))))))))
   exact zH (ret_one O (Ah (i:=3) (cs:=AT (a*b)) O O isAgg71 sizeOf71 O) (λw hw=>⟨rfl,hw.out⟩))
end
section
def CI:Nat->Nat->List Nat
  | 0,_=>[]
  | N+1,v=>v%4294967296::CI N (v/4294967296)
theorem Bh:∀(N v:Nat),(CI N v).length=N
  | 0,_=>rfl
  | N+1,v=>by simp [CI,Bh N]
theorem De:∀(N v:Nat),W32 (CI N v)
  | 0,_=>W32.nil
  | N+1,v=>W32.cons Z (De N _)
theorem Fi:∀(N v:Nat),v<4294967296^N->val (CI N v)=v
  | 0,v,h=>by simp at h;simp [CI,val,h]
  | N+1,v,h=>by
    rw [Nat.pow_succ] at h
    rw [CI,val,Fi N _ (by rw [Nat.div_lt_iff_lt_mul Z];exact h)]
    omega
theorem Pn:∀{xs:List Nat},W32 xs->CI xs.length (val xs)=xs
  | [],_=>rfl
  | x::xs,h=>by
    have hx:=h x jX
    rw [List.length_cons,val,CI,show (x+4294967296*val xs)%4294967296=x by omega,show (x+4294967296*val xs)/4294967296=val xs by omega,Pn (λy hy=>h y (by simp [hy]))]
theorem II {xs:List Nat} {N v:Nat} (h:W32 xs) (hl:xs.length=N) (hv:val xs=v):xs=CI N v:=by subst hl;subst hv;exact (Pn h).symm
theorem Ub {v k:Nat}:v/4294967296^(k+1)*4294967296+v/4294967296^k%4294967296=v/4294967296^k:=by
  rw [Nat.pow_succ,<-Nat.div_div_eq_div_mul];omega
theorem Gm:∀(v k:Nat),(AP v).getD k 0=v/4294967296^k%4294967296:=by
  intro v
  induction v using Nat.strongRecOn with
  | _ v ih =>
    intro k
    by_cases h:v=0
    · subst h;simp [Rr]
    · rw [GV h]
      cases k with
      | zero=>simp
      | succ k=>rw [List.getD_cons_succ,ih _ Z,Nat.pow_succ,Nat.div_div_eq_div_mul,Nat.mul_comm]
theorem HS:∀(xs:List Nat) (k:Nat),W32 xs->xs.getD k 0=val xs/4294967296^k%4294967296
  | [],k,_=>by simp [val]
  | x::xs,0,h=>by have:=h x jX;simp [val];omega
  | x::xs,k+1,h=>by
    have hx:=h x jX
    rw [List.getD_cons_succ,HS xs k (λy hy=>h y (by simp [hy])),val,Nat.pow_succ,Nat.mul_comm (4294967296^k),<-Nat.div_div_eq_div_mul,show (x+4294967296*val xs)/4294967296=val xs by omega]
theorem RV {qs:List Nat} {a y k r n:Nat} (hl:qs.length=n) (hk:k<n) (hq:∀j,j<=k->qs.getD j 0=0) (hr:r<y) (hv:val qs*y+r*4294967296^(k+1)=a/4294967296^(k+1)*4294967296^(k+1)) :
    val (qs.set k ((r*4294967296+a/4294967296^k%4294967296)/y))*y+(r*4294967296+a/4294967296^k%4294967296)%y*4294967296^k=a/4294967296^k*4294967296^k:=by
  have e:=Ii (c:=(r*4294967296+a/4294967296^k%4294967296)/y) hl hk (hq k (Nat.le_refl _))
  have d:=Ub (v:=a) (k:=k)
  have m:=Nat.div_add_mod (r*4294967296+a/4294967296^k%4294967296) y
  rw [e]
  rw [Nat.pow_succ] at hv
  rw [Nat.pow_succ] at d
  generalize (r*4294967296+a/4294967296^k%4294967296)/y=q at *
  generalize hrr:(r*4294967296+a/4294967296^k%4294967296)%y=r' at *
  generalize a/4294967296^k%4294967296=w at *
  generalize a/(4294967296^k*4294967296)=h at *
  generalize a/4294967296^k=g at *
  generalize 4294967296^k=p at *
  subst d
  have m2:(y*q+r')*p=(r*4294967296+w)*p:=by rw [m]
  grind
theorem RT {a y v r:Nat} (hr:r<y) (hv:v*y+r*4294967296^0=a/4294967296^0*4294967296^0):v=a/y/\r=a%y:=by
  simp at hv
  have e:a=r+y*v:=by rw [<-hv,Nat.mul_comm];omega
  subst e
  constructor
  · rw [Nat.add_mul_div_left _ _ Z,Nat.div_eq_of_lt hr];omega
  · rw [Nat.add_mul_mod_self_left,Nat.mod_eq_of_lt hr]
theorem cU {w c s:Nat} (hw:w<4294967296) (hc:c<2^s) (hs:s<32):w*2^s%4294967296 ||| c=w*2^s%4294967296+c:=by
  have e:w*2^s%4294967296=w%2^(32-s)*2^s:=by
    have:(4294967296:Nat)=2^(32-s)*2^s:=by rw [<-Nat.pow_add,show 32-s+s=32 by omega]
    rw [this,Nat.mul_mod_mul_right]
  rw [e,Nat.or_comm,IF hc];omega
theorem cT {w s:Nat} (hw:w<4294967296) (hs:s<32):w*2^s<18446744073709551616/\w*2^s/4294967296<2^s:=by
  have h1:w*2^s<4294967296*2^s:=Nat.mul_lt_mul_of_pos_right hw (Nat.pow_pos Z)
  have h2:(2:Nat)^s<=2^31:=Nat.pow_le_pow_right Z Z
  constructor
  · omega
  · rw [Nat.div_lt_iff_lt_mul Z];omega
theorem RS {w c s:Nat} (hc:c<2^s) (hs:s<32):w*2^s%4294967296+c<4294967296:=by
  have e:w*2^s%4294967296=w%2^(32-s)*2^s:=by
    have:(4294967296:Nat)=2^(32-s)*2^s:=by rw [<-Nat.pow_add,show 32-s+s=32 by omega]
    rw [this,Nat.mul_mod_mul_right]
  have h1:w%2^(32-s)+1<=2^(32-s):=Nat.mod_lt _ (Nat.pow_pos Z)
  have h2:(w%2^(32-s)+1)*2^s<=2^(32-s)*2^s:=Nat.mul_le_mul_right _ h1
  rw [<-Nat.pow_add,show 32-s+s=32 by omega,Nat.add_mul] at h2
  rw [e];omega
theorem RR {os xs:List Nat} {i n c s:Nat} (hl:os.length=n) (hi:i<n) (h0:∀j,i<=j->os.getD j 0=0) (hv:val os+c*4294967296^i=val (xs.take i)*2^s) :
    val (os.set i (xs.getD i 0*2^s%4294967296+c))+xs.getD i 0*2^s/4294967296*4294967296^(i+1)=val (xs.take (i+1))*2^s:=by
  rw [Ii hl hi (h0 i (Nat.le_refl _)),Bg,Nat.pow_succ]
  have m:=Nat.div_add_mod (xs.getD i 0*2^s) 4294967296
  generalize xs.getD i 0*2^s%4294967296=r at *
  generalize xs.getD i 0*2^s/4294967296=q at *
  generalize xs.getD i 0=w at *
  generalize 2^s=z at *
  generalize 4294967296^i=p at *
  have m2:(4294967296*q+r)*p=w*z*p:=by rw [m]
  grind
theorem Ta {os us:List Nat} {i n:Nat} (hl:us.length=n) (hlo:os.length=n) (hi:i<n) (hu:W32 us) (hd:os.drop i=us.drop i) (hv:2*val (os.take i)+us.getD 0 0%2=val (us.take i)+us.getD i 0%2*4294967296^i) {x:Nat} (hx:x=us.getD i 0/2+us.getD (i+1) 0%2*2147483648) :
    (os.set i x).drop (i+1)=us.drop (i+1)/\2*val ((os.set i x).take (i+1))+us.getD 0 0%2=val (us.take (i+1))+us.getD (i+1) 0%2*4294967296^(i+1):=by
  constructor
  · rw [List.drop_set_of_lt Z]
    have h1:=congrArg (List.drop 1) hd
    rwa [List.drop_drop,List.drop_drop] at h1
  · rw [Bg,Bg,List.take_set_of_le (Nat.le_refl _),Nat.pow_succ]
    have e:(os.set i x).getD i 0=x:=by simp [List.getD_eq_getElem?_getD,hlo,hi]
    rw [e,hx]
    have m:us.getD i 0=2*(us.getD i 0/2)+us.getD i 0%2:=by omega
    generalize us.getD i 0/2=h at *
    generalize us.getD i 0%2=b at *
    generalize us.getD (i+1) 0%2=b' at *
    rw [m]
    generalize 4294967296^i=p at *
    grind
theorem TZ {os us:List Nat} {n:Nat} (hl:us.length=n) (hlo:os.length=n) (hv:2*val (os.take n)+us.getD 0 0%2=val (us.take n)+us.getD n 0%2*4294967296^n) (hu:W32 us):val os=val us/2:=by
  rw [List.take_of_length_le Z,List.take_of_length_le Z] at hv
  have e:us.getD n 0=0:=by simp [List.getD_eq_getElem?_getD,hl]
  rw [e] at hv
  simp at hv
  have:=Nat.mod_lt (us.getD 0 0) (show 2>0 by omega)
  simp only [List.getD_eq_getElem?_getD] at this
  omega
theorem Tj {os us vs:List Nat} {k i n N c l D:Nat} (hl:os.length=N) (hi:k+i<N) (hw:W32 os) (hll:l<=1)
    (hv:val os+D*val (vs.take i)*4294967296^k=val us+(c+l)*4294967296^(k+i)) {s c':Nat} (hs:s=(c+D*vs.getD i 0)%4294967296) (hc':c'=(c+D*vs.getD i 0)/4294967296) :
    val (os.set (k+i) ((os.getD (k+i) 0+(4294967296-s)+(4294967296-l))%4294967296))+D*val (vs.take (i+1))*4294967296^k=val us+(c'+Jh (os.getD (k+i) 0) (s+l))*4294967296^(k+(i+1)):=by
  have e:=F3 (xs:=os) (i:=k+i) Z ((os.getD (k+i) 0+(4294967296-s)+(4294967296-l))%4294967296)
  have t:=Bg vs i
  have ho:=hw.getD (k+i)
  have hs2:s<4294967296:=by omega
  have m:c+D*vs.getD i 0=4294967296*c'+s:=by omega
  have b:(os.getD (k+i) 0+(4294967296-s)+(4294967296-l))%4294967296+s+l=os.getD (k+i) 0+Jh (os.getD (k+i) 0) (s+l)*4294967296:=by unfold Jh;split<;>omega
  rw [t,show k+(i+1)=k+i+1 by omega,Nat.pow_succ]
  rw [Nat.pow_add] at *
  generalize (os.getD (k+i) 0+(4294967296-s)+(4294967296-l))%4294967296=r at *
  generalize Jh (os.getD (k+i) 0) (s+l)=q at *
  generalize os.getD (k+i) 0=o at *
  generalize vs.getD i 0=v at *
  generalize 4294967296^i=p at *
  generalize 4294967296^k=p' at *
  generalize val (vs.take i)=vv at *
  clear hs hc'
  have b2:(r+s+l)*(p'*p)=(o+q*4294967296)*(p'*p):=by rw [b]
  have m2:(c+D*v)*(p'*p)=(4294967296*c'+s)*(p'*p):=by rw [m]
  grind
theorem Th {os us vs:List Nat} {k n N c l D:Nat} (hl:os.length=N) (hw:W32 os) (hk:k+n+1<=N) (hu:val us<4294967296^(k+n+1)) (hv:val os+D*val (vs.take n)*4294967296^k=val us+l*4294967296^(k+n+1)) (hl1:l<=1) (hz:∀j,k+n+1<=j->os.getD j 0=0) :
    decide (0<l)=decide (val us<D*val (vs.take n)*4294967296^k)/\os=CI N (val us+(if val us<D*val (vs.take n)*4294967296^k then 4294967296^(k+n+1) else 0)-D*val (vs.take n)*4294967296^k):=by
  have ho:val os<4294967296^(k+n+1):=by
    have h1:=FQ os (k+n+1) Z
    have h2:val (os.drop (k+n+1))=0:=by
      have:os.drop (k+n+1)=List.replicate (N-(k+n+1)) 0:=by
        apply List.ext_getElem (by simp [hl])
        intro j h1 h2
        have:=hz (k+n+1+j) Z
        simp [List.getD_eq_getElem?_getD] at this h1
        simp
        have h3:k+n+1+j<os.length:=by omega
        simpa [h3] using this
      rw [this,Ej]
    rw [h2] at h1
    have h3:=HT (hw.take (k+n+1))
    rw [List.length_take,Nat.min_eq_left Z] at h3
    omega
  generalize D*val (vs.take n)*4294967296^k=X at *
  generalize 4294967296^(k+n+1)=p at *
  have hl2:l=0\/l=1:=by omega
  rcases hl2 with rfl|rfl
  · have h1:¬val us<X:=by omega
    refine ⟨by simp [h1],II hw hl ?_⟩
    rw [if_neg h1];omega
  · have h1:val us<X:=by omega
    refine ⟨by simp [h1],II hw hl ?_⟩
    rw [if_pos h1];omega
theorem Jv {os:List Nat} {p:Nat} (h:val os<4294967296^p):∀j,p<=j->os.getD j 0=0:=λj hj=>Gs h hj
theorem Ti {os:List Nat} {p N c l X U:Nat} (hl:os.length=N) (hp:p<N) (hw:W32 os) (hll:l<=1) (hc:c<4294967296) (hv:val os+X=U+(c+l)*4294967296^p) :
    val (os.set p ((os.getD p 0+(4294967296-c)+(4294967296-l))%4294967296))+X=U+Jh (os.getD p 0) (c+l)*4294967296^(p+1):=by
  have e:=F3 (xs:=os) (i:=p) Z ((os.getD p 0+(4294967296-c)+(4294967296-l))%4294967296)
  have ho:=hw.getD p
  have b:(os.getD p 0+(4294967296-c)+(4294967296-l))%4294967296+c+l=os.getD p 0+Jh (os.getD p 0) (c+l)*4294967296:=by unfold Jh;split<;>omega
  rw [Nat.pow_succ]
  generalize (os.getD p 0+(4294967296-c)+(4294967296-l))%4294967296=r at *
  generalize Jh (os.getD p 0) (c+l)=q at *
  generalize os.getD p 0=o at *
  generalize 4294967296^p=z at *
  have b2:(r+c+l)*z=(o+q*4294967296)*z:=by rw [b]
  grind
theorem Mr {os us:List Nat} {i j:Nat} (h:os.drop i=us.drop i) (hj:i<=j):os.getD j 0=us.getD j 0:=by
  have h1:=congrArg (λl:List Nat=>l.getD (j-i) 0) h
  simp only [List.getD_eq_getElem?_getD,List.getElem?_drop] at h1 ⊢
  rwa [show i+(j-i)=j by omega] at h1
theorem Yw {h y:Nat} (hh:h<2147483648):h ||| y*2^31%4294967296=h+y%2*2147483648:=by
  have e:y*2^31%4294967296=y%2*2^31:=by rw [show (4294967296:Nat)=2*2^31 from rfl,Nat.mul_mod_mul_right]
  rw [e,IF (s:=31) Z]
theorem MY {os:List Nat} {i v:Nat} (h:i<os.length):(os.set i v).getD i 0=v:=by simp [List.getD_eq_getElem?_getD,h]
theorem Jr {os:List Nat} {i j v:Nat} (h:i≠j):(os.set i v).getD j 0=os.getD j 0:=by
  rw [List.getD_eq_getElem?_getD,List.getElem?_set_ne h,<-List.getD_eq_getElem?_getD]
structure IT (V W v1 top d r:Nat):Prop where
  low:W/V<=d
  eq:d*v1+r=top
theorem Qq {V W v1 v2 u2 top m p:Nat} (hp:0<p) (hV:V=(v1*4294967296+v2)*p+m) (hv2:v2<4294967296) (hm:m<p) (hW:W<(top+1)*(4294967296*p)) (h1:0<v1):IT V W v1 top (top/v1) (top%v1):=by
  refine ⟨?_,by rw [Nat.mul_comm];exact Nat.div_add_mod top v1⟩
  have hVp:0<V:=by
    have:0<v1*4294967296+v2:=by omega
    have:=Nat.mul_pos this hp
    omega
  rw [<-Nat.lt_succ_iff,Nat.div_lt_iff_lt_mul hVp]
  have h2:top<v1*(top/v1+1):=Nat.lt_mul_div_succ top h1
  have h3:(top+1)*(4294967296*p)<=v1*(top/v1+1)*(4294967296*p):=Nat.mul_le_mul_right _ h2
  have h4:v1*(4294967296*p)<=V:=by
    rw [hV];have:v1*(4294967296*p)=v1*4294967296*p:=by rw [Nat.mul_assoc]
    rw [this,Nat.add_mul];omega
  have h5:(top/v1+1)*(v1*(4294967296*p))<=(top/v1+1)*V:=Nat.mul_le_mul_left _ h4
  have h6:v1*(top/v1+1)*(4294967296*p)=(top/v1+1)*(v1*(4294967296*p)):=by rw [Nat.mul_comm v1,Nat.mul_assoc]
  show W<(top/v1+1)*V
  omega
theorem Qr {V W v1 v2 u2 top d r m p:Nat} (h:IT V W v1 top d r) (hp:0<p) (hV:V=(v1*4294967296+v2)*p+m) (h1:0<v1) (hW:W<(top*4294967296+u2+1)*p) (hq:W/V<4294967296)
    (ht:¬(d<=4294967295/\d*v2<=r*4294967296+u2)):IT V W v1 top (d-1) (r+v1)/\0<d:=by
  have hVp:0<V:=by
    have:0<v1*4294967296+v2:=by omega
    have:=Nat.mul_pos this hp
    omega
  have hdiv:∀x,W/V<x↔W<x*V:=λx=>Nat.div_lt_iff_lt_mul hVp
  obtain ⟨hlow,heq⟩:=h
  suffices hlt:W/V<d by
    have h0:0<d:=Nat.lt_of_le_of_lt (xu _) hlt
    have e:d*v1=(d-1)*v1+v1:=by
      obtain ⟨e,rfl⟩:∃e,d=e+1:=⟨d-1,(Nat.succ_pred_eq_of_pos h0).symm⟩
      rw [Nat.add_mul];simp
    refine ⟨⟨Nat.le_sub_one_of_lt hlt,?_⟩,h0⟩
    clear hdiv hlow hq ht hW hV hlt
    omega
  have hlt:W/V<d:=by
    by_cases hd:d<=4294967295
    · have h2:r*4294967296+u2+1<=d*v2:=by
        rcases Nat.lt_or_ge (r*4294967296+u2) (d*v2) with h3|h3
        · exact h3
        · exact absurd ⟨hd,h3⟩ ht
      refine (hdiv d).2 ?_
      have ex:d*(v1*4294967296+v2)=d*v1*4294967296+d*v2:=by rw [Nat.mul_add,Nat.mul_assoc]
      have h3:(top*4294967296+u2+1)*p<=(d*(v1*4294967296+v2))*p:=by
        refine Nat.mul_le_mul_right _ ?_
        rw [ex,<-heq,Nat.add_mul,Nat.add_assoc,Nat.add_assoc]
        exact Nat.add_le_add_left (by rw [<-Nat.add_assoc];exact h2) _
      have h4:d*V=d*(v1*4294967296+v2)*p+d*m:=by rw [hV,Nat.mul_add,Nat.mul_assoc]
      omega
    · exact Nat.lt_of_lt_of_le hq Z
  exact hlt
theorem Qp {V W v1 v2 u2 top d r m p:Nat} (h:IT V W v1 top d r) (hp:0<p) (hV:V=(v1*4294967296+v2)*p+m) (hm:m<p) (h1:0<v1) (hv2:v2<4294967296) (hW2:(top*4294967296+u2)*p<=W) (hWV:W<V*4294967296) (hv1:v1<4294967296)
    (hend:4294967295<r\/(d<=4294967295/\d*v2<=r*4294967296+u2)):d<=4294967295/\(d=W/V\/d=W/V+1):=by
  have hVp:0<V:=by
    have:0<v1*4294967296+v2:=by omega
    have:=Nat.mul_pos this hp
    omega
  have hd:d<=4294967295:=by
    rcases hend with hr|hr
    · -- top<(v1+1)*2^32
      have hV2:V<(v1+1)*4294967296*p:=by
        have:(v1*4294967296+v2)*p+p<=(v1+1)*4294967296*p:=by
          have:(v1*4294967296+v2+1)*p<=((v1+1)*4294967296)*p:=Nat.mul_le_mul_right _ Z
          rw [Nat.add_mul,Nat.one_mul] at this;exact this
        omega
      have h3:(top*4294967296)*p<(v1+1)*4294967296*p*4294967296:=by
        have:(top*4294967296)*p<=(top*4294967296+u2)*p:=Nat.mul_le_mul_right _ Z
        have:V*4294967296<=(v1+1)*4294967296*p*4294967296:=Nat.mul_le_mul_right _ (Nat.le_of_lt hV2)
        omega
      have h4:top*4294967296<(v1+1)*4294967296*4294967296:=by
        rw [Nat.mul_right_comm _ p] at h3
        exact Nat.lt_of_mul_lt_mul_right h3
      have h5:d*v1<4294967296*v1:=by have:=h.eq;omega
      have:=Nat.lt_of_mul_lt_mul_right h5
      omega
    · exact hr.1
  refine ⟨hd,?_⟩
  have ht:d*v2<=r*4294967296+u2:=by
    rcases hend with hr|hr
    · have:d*v2<=4294967295*4294967295:=Nat.mul_le_mul hd Z
      omega
    · exact hr.2
  have hle:d*V<=W+V:=by
    have a1:d*(v1*4294967296+v2)<=top*4294967296+u2:=by
      rw [Nat.mul_add,<-Nat.mul_assoc];have:=h.eq;omega
    have a2:d*(v1*4294967296+v2)*p<=(top*4294967296+u2)*p:=Nat.mul_le_mul_right _ a1
    have a3:d*m<=4294967296*p:=Nat.mul_le_mul Z (Nat.le_of_lt hm)
    have a4:4294967296*p<=V:=by
      rw [hV]
      have:4294967296*p<=(v1*4294967296+v2)*p:=Nat.mul_le_mul_right _ Z
      omega
    have e:d*V=d*(v1*4294967296+v2)*p+d*m:=by rw [hV,Nat.mul_add,Nat.mul_assoc]
    omega
  have h6:d<=W/V+1:=by
    rcases Nat.eq_zero_or_pos d with h0|h0
    · rw [h0];exact xu _
    · have:(d-1)*V<=W:=by
        obtain ⟨e,rfl⟩:∃e,d=e+1:=⟨d-1,(Nat.succ_pred_eq_of_pos h0).symm⟩
        rw [Nat.add_mul] at hle;simp;omega
      have:=(Nat.le_div_iff_mul_le hVp).2 this
      generalize W/V=q at *
      omega
  have:=h.low
  generalize W/V=q at *
  omega
section
variable {P:Program} {Q:Exit->Act->World->Prop} {n:Nat} {F:List (Nat×Value)} {w0:BA} {L:List As}
theorem OkC.scope {c:Code} (h:OkC P c (Exit.noGoto Q) n F w0 L):OkC P (.scope c) Q n F w0 L:=λa w ha hw=>wp_scope_straight (h a w ha hw)
theorem OkC.label {l:Nat} (h:OkQ Q .normal n F w0 L):OkC P (.label l) Q n F w0 L:=λa w ha hw=>wp_label (h a w ha hw)
theorem OkQ.scope_normal (h:OkQ Q .normal n F w0 L):OkQ (Exit.noGoto Q) .normal n F w0 L:=h
theorem AQ.callBB {ops:Array Oper} {rest:List Oper} {o:Oper} {d:Nat} {f:FuncId} {args:Array Value} {V:Nat->Nat->Value} {T T2:TypeId} {cs cs2:List Value} (hw:Wt ops n F o)
    (he:∀a w,C8 n a F->BE w0 w L->(execOp a.eval o).run P w=.ok (.enter f args) w)
    (hc:∀w,BE w0 w L->Calls P f args w λe w'=>∃b b2,e=.returned (V b b2)/\Hu w.heap.size w w'/\w.heap.size<=b/\w.heap.size<=b2/\b≠b2/\w'.heap[b]?=some (.cells cs.toArray T (0,0))/\w'.heap[b2]?=some (.cells cs2.toArray T2 (0,0)))
    (ho:o.dst=some d) (hd:d<n) (next:∀b b2,AQ P ops rest Q n ((d,V b b2)::F) w0 (AU b T cs::AU b2 T2 cs2::L)):AQ P ops (o::rest) Q n F w0 L:=λa w ha hW=>by
  unfold wpList
  rw [if_pos (hw a ha)]
  left
  unfold Oper.wp
  rw [he a w ha hW,Oper.upon_enter]
  refine (hc w hW).mono ?_
  rintro e w' ⟨b,b2,rfl,hb,h1,h2,hne,hcell,hcell2⟩
  rw [ho]
  have hW2:BE w0 w' (AU b2 T2 cs2::L):=hW.add rfl hb h2 ⟨_,hcell2,rfl⟩
  refine next b b2 _ _ (ha.put hd) ⟨hW2.1,λx hx c hc=>?_,?_⟩
  · rcases xy.1 hx with rfl|hx
    · injection hc with hc;subst hc
      exact ⟨.inr (.inl (xx hW.1.size h1)),_,hcell,rfl⟩
    · exact hW2.2.1 x hx c hc
  · refine List.pairwise_cons.2 ⟨λy hy=>.inr λc hc=>?_,hW2.2.2⟩
    injection hc with hc;subst hc
    rcases xy.1 hy with rfl|hy
    · intro e;injection e with e;exact hne e.symm
    · intro e
      have:=hW.lt hy e
      omega
end
end
section
set_option maxRecDepth 100000
theorem NJ (a y p c:Nat) (bs:List Nat) (hbs:W32 bs) (hla:nw a<=bs.length) (hbd:∀i,i<nw a->bs.getD i 0=(AP a).getD i 0) (ha:nw a<=1099511627776) (hy:0<y) (hy2:y<4294967296) (w:World) (hp:w.heap[p]?=some (.cells (Aq bs).toArray 92 (0,0))):Calls prog 188 #[(qz (jk p) (nw a) c),(vK .u32 y)] w (λe w'=>∃b,e=.returned (.tuple #[.slice (jk b) (nw a) (nw a),.int .u32 ((a%y:Nat):Int)])/\Hu w.heap.size w w'/\w.heap.size<=b/\w'.heap[b]?=some (.cells (Aq (CI (nw a) (a/y))).toArray 92 (0,0))):=by
 refine AS (args:=[(qz (jk p) (nw a) c),(vK .u32 y)]) func188 O O (leB O) (zM (sL [0,1] O) (q4 (asg' O (asg' O (oNl' (q2 (AJ O (st' (v:=(vN (nw a))) (AD O underlying255) O (zn (V:=λb1=>(qz (jk b1) (nw a) (nw a))) (T:=92) (cs:=Aq (List.replicate (nw a) 0)) (AM O) (Da (m:=nw a) (c:=nw a) O O Z Z) O (leB O) λb1=>asg' O (q6 (sL [0,1,4,5] O) ?_))))))))))
 refine q4 (AJ O (st' (v:=(vN (nw a))) (AD O underlying255) O (st' (Bc (c:=(((nw a:Nat):Int)-1)) O O (BZ Z Z)) O (asg' O (oNl' (zF (sL [0,1,4,5,6] O) (zC (zN ?_))))))))
 refine yW (tg λ(k:Nat) (qs:List Nat) (r:Nat)=>k<=nw a/\qs.length=nw a/\W32 qs/\r<y/\(∀j,j<k->qs.getD j 0=0)/\val qs*y+r*4294967296^k=a/4294967296^k*4294967296^k) (tg λ(k:Nat) (qs:List Nat) (r:Nat)=>[(0,(qz (jk p) (nw a) c)),(1,(vK .u32 y)),(4,(qz (jk b1) (nw a) (nw a))),(6,(vI (((k:Nat):Int)-1))),(5,(vK .u32 r))]) (tg λ(k:Nat) (qs:List Nat) (r:Nat)=>[AU b1 92 (Aq qs)]) (tg λ(k:Nat) (qs:List Nat) (r:Nat)=>k) (nw a) (List.replicate (nw a) 0) 0 (⟨Nat.le_refl _,by simp,W32.zeros _,hy,λj _=>by simp [List.getD_eq_getElem?_getD,List.getElem?_replicate];split<;>rfl,by rw [Ej,Nat.div_eq_of_lt (Bp a)];simp⟩) (sF O) sr (λk qs r hJ=>?_)
 obtain ⟨hk,hl,hw32,hr,hz,hv⟩:=hJ
 refine zf (q4 (AJ O (st' (CU (c:=(decide ((0:Int)<=(((k:Nat):Int)-1)))) O O O) O (oNl' (zF (sL [0,1,4,6,5,14] O) (zC ?_))))))
 refine zO O (λhc0=>?_) (λhc0=>?_)
 ·replace hc0:=xR hc0
  have hk0:0<k:=by omega
  refine yT (k:=6) (u:=(vN (k-1))) O (by congr 1;omega) (zJ (q1 (zN (zQ (AJ O (AJ O (AJ O (AJ O (AJ O (st' (v:=(pP p (k-1))) (AL (j:=k-1) O O underlying255 sizeOf92 O Z jX) O ?_))))))))))
  have hx1:bs.getD (k-1) 0<4294967296:=W32.getD hbs (k-1)
  refine st' (Be (v:=(vK .u32 (bs.getD (k-1) 0))) O (λw' hw=>CA.at0 (hw.oldCA jX (FT hp)) (BJ (xs:=bs) (j:=(k-1)) Z)) isAgg92) O ?_
  have hdg:a/4294967296^(k-1)%4294967296<4294967296:=Nat.mod_lt _ Z
  have hq9:(r*4294967296+a/4294967296^(k-1)%4294967296)/y<4294967296:=Nat.div_lt_of_lt_mul (by have h9:(r+1)*4294967296<=y*4294967296:=Nat.mul_le_mul_right _ hr;omega)
  have hr9:(r*4294967296+a/4294967296^(k-1)%4294967296)%y<y:=Nat.mod_lt _ hy
  refine zK (k:=24) (u:=(vK .u32 (a/4294967296^(k-1)%4294967296))) O (by rw [hbd _ Z,Gm]) (AJ O (ck' call231 (Vm r (a/4294967296^(k-1)%4294967296) y Z Z Z) O (AJ O (st' (AK (v:=(vK .u32 ((r*4294967296+(a/4294967296^(k-1)%4294967296))/y))) O O) O (st' (AK (v:=(vK .u32 ((r*4294967296+(a/4294967296^(k-1)%4294967296))%y))) O O) O (st' (v:=(pP b1 (k-1))) (AL (j:=k-1) O O underlying255 sizeOf92 O Z jX) O (z8 (i:=0) (off:=(k-1)) (vs:=[(vK .u32 ((r*4294967296+(a/4294967296^(k-1)%4294967296))/y))]) (cs':=Aq (qs.set (k-1) ((r*4294967296+(a/4294967296^(k-1)%4294967296))/y))) (L':=[AU b1 92 (Aq (qs.set (k-1) ((r*4294967296+(a/4294967296^(k-1)%4294967296))/y)))]) (AM O) O O O O O sizeOf92 O (C2 (BW _) Z) (CR Z) O (asg' O (oNl' (zF (sL [0,1,4,6,5] O) (zP ?_)))))))))))
  refine zC (zQ (AJ O (st' (Bc (c:=(((k-1:Nat):Int)-1)) O O (BZ Z Z)) O (asg' O (oNl' (zF (sL [0,1,4,6,5] O) ?_))))))
  have hst:=RV (y:=y) (k:=k-1) hl Z (λj hj=>hz j Z) hr (a:=a) (by rw [show k-1+1=k by omega];exact hv)
  exact yN (k-1) (qs.set (k-1) ((r*4294967296+a/4294967296^(k-1)%4294967296)/y)) ((r*4294967296+a/4294967296^(k-1)%4294967296)%y) (⟨Z,by rw [List.length_set];exact hl,W32.set hw32 hq9 _,hr9,λj hj=>by rw [List.getD_eq_getElem?_getD,List.getElem?_set_ne Z,<-List.getD_eq_getElem?_getD];exact hz j Z,hst⟩) Z (sF O) sr
 ·replace hc0:=xQ hc0
  have hk0:k=0:=by omega
  have hv0:=hv
  rw [hk0] at hv0
  have hd:=RT hr hv0
  refine zY (zR (yF (zV (q2 (AJ O (AJ O (asg' O (asg' O (oNl' (zF (sL [0,1,4,6,5] O) (zC ?_)))))))))))
  refine zH ?_
  have hcells:(some (Obj.cells (Aq qs).toArray 92 (0,0)))=some (Obj.cells (Aq (CI (nw a) (a/y))).toArray 92 (0,0)):=by rw [II hw32 hl hd.1]
  exact BR O (rd_tmp (v:=(qz (jk b1) (nw a) (nw a))) O) (rd_tmp (v:=(vK .u32 r)) O) (λw hw=>⟨b1,by rw [hd.2],hw.out,hw.fresh (i:=0) O,(hw.get (i:=0) O).trans hcells⟩)
theorem XZ (a y p c:Nat) (ha:nw a<=1099511627776) (hy:0<y) (hy2:y<4294967296) (w:World) (hp:w.heap[p]?=some (.cells (Aq (Ay a)).toArray 92 (0,0))):Calls prog 188 #[(qz (jk p) (nw a) c),(vK .u32 y)] w (λe w'=>∃b,e=.returned (.tuple #[.slice (jk b) (nw a) (nw a),.int .u32 ((a%y:Nat):Int)])/\Hu w.heap.size w w'/\w.heap.size<=b/\w'.heap[b]?=some (.cells (Aq (CI (nw a) (a/y))).toArray 92 (0,0))):=NJ a y p c (Ay a) (CO a) (CK a) (λi hi=>Db hi) ha hy hy2 w hp
theorem Lm (p m c s:Nat) (bs:List Nat) (hbs:W32 bs) (hm:m<=bs.length) (hml:m<=1099511627776) (hs:s<32) (w:World) (hp:w.heap[p]?=some (.cells (Aq bs).toArray 92 (0,0))):Calls prog 273 #[(qz (jk p) m c),(vN s)] w (λe w'=>∃b,e=.returned (.slice (jk b) (m+1) (m+1))/\Hu w.heap.size w w'/\w.heap.size<=b/\w'.heap[b]?=some (.cells (Aq (CI (m+1) (val (bs.take m)*2^s))).toArray 92 (0,0))):=by
 refine AS (args:=[(qz (jk p) m c),(vN s)]) func273 O O (leB O) (zM (sL [0,1] O) (q4 (asg' O (oNl' (q2 (AJ O (st' (v:=(vN m)) (AD O underlying255) O (st' (AV (c:=((m+1:Nat):Int)) O O (AY (a:=m) (b:=1) Z)) O (zn (V:=λb1=>(qz (jk b1) (m+1) (m+1))) (T:=92) (cs:=Aq (List.replicate (m+1) 0)) (AM O) (Da (m:=m+1) (c:=m+1) O O Z Z) O (leB O) λb1=>asg' O (q3 (sL [0,1,4,5] O) ?_))))))))))
 refine asg' O (oNl' (q1 (q4 (AJ O (st' (v:=(vN m)) (AD O underlying255) O (AJ O (oNl' (zC (zN ?_)))))))))
 refine yW (tg λ(i:Nat) (os:List Nat) (c2:Nat)=>i<=m/\os.length=m+1/\W32 os/\c2<2^s/\(∀j,i<=j->os.getD j 0=0)/\val os+c2*4294967296^i=val (bs.take i)*2^s) (tg λ(i:Nat) (os:List Nat) (c2:Nat)=>[(0,(qz (jk p) m c)),(1,(vN s)),(4,jj),(5,(qz (jk b1) (m+1) (m+1))),(13,(qz (jk p) m c)),(14,(vN m)),(15,(vN i)),(6,(vK .u32 c2))]) (tg λ(i:Nat) (os:List Nat) (c2:Nat)=>[AU b1 92 (Aq os)]) (tg λ(i:Nat) (os:List Nat) (c2:Nat)=>m-i) 0 (List.replicate (m+1) 0) 0 (⟨xu _,by simp,W32.zeros _,Nat.pow_pos Z,λj _=>by simp [List.getD_eq_getElem?_getD,List.getElem?_replicate];split<;>rfl,by rw [Ej];simp [val]⟩) (sF O) sr (λi os c2 hJ=>?_)
 obtain ⟨hi,hl,hw32,hcb2,h0,hv⟩:=hJ
 refine q4 (st' (AW (c:=(decide (i<m))) O O (B_ (a:=i) (b:=m))) O (oNl' (q1 ?_)))
 refine zO O (λhc0=>?_) (λhc0=>?_)
 ·replace hc0:=xR hc0
  refine zJ (q1 (zN (q4 (AJ O (st' (v:=(pP p i)) (AL (j:=i) O O underlying255 sizeOf92 O Z jX) O ?_)))))
  have hx1:bs.getD i 0<4294967296:=W32.getD hbs i
  refine st' (Be (v:=(vK .u32 (bs.getD i 0))) O (λw' hw=>CA.at0 (hw.oldCA jX (FT hp)) (BJ (xs:=bs) (j:=i) Z)) isAgg92) O (asg' O (asg' O (q3 (sL [0,1,4,5,13,14,15,6,7,8] O) (AJ O (AJ O (AJ O (AJ O ?_)))))))
  have hxb:=hbs.getD i
  have hsl:=cT hxb hs
  have hs32:(2:Nat)^s<=2^31:=Nat.pow_le_pow_right Z Z
  have hso:=RS (w:=bs.getD i 0) hcb2 hs
  refine st' (v:=(vK .u32 (bs.getD i 0*2^s%4294967296))) (G4 (s:=s) O O O (show s<=32 by omega) NI) O (AJ O (st' (Jk (c:=((bs.getD i 0*2^s%4294967296+c2:Nat):Int)) O O (KW Z Z (cU hxb hcb2 hs))) O (st' (v:=(pP b1 i)) (AL (j:=i) O O underlying255 sizeOf92 O Z jX) O (z8 (i:=0) (off:=i) (vs:=[(vK .u32 (bs.getD i 0*2^s%4294967296+c2))]) (cs':=Aq (os.set i (bs.getD i 0*2^s%4294967296+c2))) (L':=[AU b1 92 (Aq (os.set i (bs.getD i 0*2^s%4294967296+c2)))]) (AM O) O O O O O sizeOf92 O (C2 (BW _) Z) (CR Z) O (oNl' (zF (sL [0,1,4,5,13,14,15,6,8] O) (zC (zQ (AJ O (st' (A6 (c:=((bs.getD i 0:Nat):Int)) O underlying92 underlying69 (BT Z)) O (AJ O ?_)))))))))))
  refine st' (v:=(vK .u64 (bs.getD i 0*2^s))) (G4 (s:=s) O O O (show s<=64 by omega) (HO hsl.1)) O (st' (DD (s:=32) (c:=(((bs.getD i 0*2^s)/4294967296:Nat):Int)) O O O jY (Gk (a:=bs.getD i 0*2^s) (s:=32))) O (st' (A6 (c:=(((bs.getD i 0*2^s)/4294967296:Nat):Int)) O underlying69 underlying92 (C4 Z)) O (asg' O (oNl' (zF (sL [0,1,4,5,13,14,15,6,8] O) (zP (zC (zQ (st' (AV (c:=((i+1:Nat):Int)) O O (AY (a:=i) (b:=1) Z)) O (AJ O (oNl' ?_)))))))))))
  refine zF (sL [0,1,4,5,13,14,15,6,8] O) ?_
  exact yN (i+1) (os.set i (bs.getD i 0*2^s%4294967296+c2)) (bs.getD i 0*2^s/4294967296) (⟨Z,by rw [List.length_set];exact hl,W32.set hw32 hso _,hsl.2,λj hj=>by rw [List.getD_eq_getElem?_getD,List.getElem?_set_ne Z,<-List.getD_eq_getElem?_getD];exact h0 j Z,RR hl Z h0 hv⟩) Z (sF O) sr
 ·replace hc0:=xQ hc0
  have him:i=m:=by omega
  have hs32:(2:Nat)^s<=2^31:=Nat.pow_le_pow_right Z Z
  have hcb:c2<4294967296:=by omega
  refine zY (zR (yF (zV (q2 (AJ O (AJ O (st' (v:=(vN m)) (AD O underlying255) O (AJ O (st' (v:=(pP b1 m)) (AL (j:=m) O O underlying255 sizeOf92 O Z jX) O (z8 (i:=0) (off:=m) (vs:=[(vK .u32 c2)]) (cs':=Aq (os.set m c2)) (L':=[AU b1 92 (Aq (os.set m c2))]) (AM O) O O O O O sizeOf92 O (C2 (BW _) Z) (CR Z) O (q3 (sL [0,1,4,5,13,14,15,6] O) ?_)))))))))))
  refine AJ O (asg' O (oNl' (zF (sL [0,1,4,5,13,14,15,6] O) (zC (zH ?_)))))
  have hrow:os.set m c2=CI (m+1) (val (bs.take m)*2^s):=II (W32.set hw32 hcb _) (by rw [List.length_set];exact hl) (by rw [Ii hl Z (h0 m Z),<-him];exact hv)
  have hcells:(some (Obj.cells (Aq (os.set m c2)).toArray 92 (0,0)))=some (Obj.cells (Aq (CI (m+1) (val (bs.take m)*2^s))).toArray 92 (0,0)):=by rw [hrow]
  exact ret_one O (rd_tmp (v:=(qz (jk b1) (m+1) (m+1))) O) (λw hw=>⟨b1,rfl,hw.out,hw.fresh (i:=0) O,(hw.get (i:=0) O).trans hcells⟩)
end
end Go.Proofs.YtpolhpjiahbidaaGreatDoor
