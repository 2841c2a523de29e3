import Derived.Test.YtpolhpjiahbidaaGreatDoorPart04
namespace Go.Proofs.YtpolhpjiahbidaaGreatDoor
open Go Go.RowKit Go.Proofs.Tryz
open Go.Value renaming slice→qw,bool→qa
set_option linter.unusedVariables false
set_option linter.unusedSimpArgs false
section
def DZ (a b:Nat):Int:=if a<b then -1 else if a=b then 0 else 1
theorem Fs {a b:Nat}:DZ a b<0↔a<b:=by
  unfold DZ;split
  · omega
  · split<;>omega
theorem Nl {a b:Nat}:DZ a b=0↔a=b:=by
  unfold DZ;split
  · omega
  · split<;>omega
theorem YE {a b:Nat} (h:nw a≠nw b):((nw a:Int)-(nw b:Int)).sign=DZ a b:=by
  unfold DZ
  by_cases h1:nw a<nw b
  · have h2:a<b:=by
      rcases Nat.lt_or_ge a b with h2|h2
      · exact h2
      · have:=DK h2;omega
    rw [if_pos h2,Int.sign_eq_neg_one_of_neg Z]
  · have h2:b<a:=by
      rcases Nat.lt_or_ge b a with h2|h2
      · exact h2
      · have:=DK h2;omega
    rw [if_neg Z,if_neg Z,Int.sign_eq_one_of_pos Z]
theorem WL {xs ys:List Nat} {k:Nat} (hx:W32 xs) (hl:xs.length=ys.length) (h0:0<k) (hk:k<=xs.length) (hd:xs.drop k=ys.drop k) (h:xs.getD (k-1) 0<ys.getD (k-1) 0):val xs<val ys:=by
  have e1:=FN xs k hk
  have e2:=FN ys k Z
  have s1:=Bf xs (k-1)
  have s2:=Bf ys (k-1)
  rw [show k-1+1=k by omega] at s1 s2
  have h1:val (xs.take (k-1))<4294967296^(k-1):=Nat.lt_of_lt_of_le (G7 (hx.take (k-1))) (Nat.pow_le_pow_right Z (by simp;omega))
  have h2:(xs.getD (k-1) 0+1)*4294967296^(k-1)<=ys.getD (k-1) 0*4294967296^(k-1):=Nat.mul_le_mul_right _ h
  rw [Nat.add_mul] at h2
  rw [hd] at e1
  omega
theorem Tu {xs ys:List Nat} {k:Nat} (hl:xs.length=ys.length) (h0:0<k) (hk:k<=xs.length) (hd:xs.drop k=ys.drop k) (h:xs.getD (k-1) 0=ys.getD (k-1) 0):xs.drop (k-1)=ys.drop (k-1):=by
  have h1:k-1<xs.length:=by omega
  have h2:k-1<ys.length:=by omega
  rw [List.drop_eq_getElem_cons h1,List.drop_eq_getElem_cons h2,show k-1+1=k by omega,hd]
  simp [h1,h2] at h
  rw [h]
theorem Tj {a b k:Nat} (hl:nw a=nw b) (h0:0<k) (hk:k<=nw a) (hd:(AP a).drop k=(AP b).drop k) (hne:(AP a).getD (k-1) 0≠(AP b).getD (k-1) 0) :
    DZ a b=if (AP a).getD (k-1) 0<(AP b).getD (k-1) 0 then -1 else 1:=by
  unfold DZ
  split
  · rename_i h
    rw [if_pos]
    rcases Nat.lt_or_ge ((AP a).getD (k-1) 0) ((AP b).getD (k-1) 0) with h1|h1
    · exact h1
    · have:=WL (By b) hl.symm h0 (by unfold nw at *;omega) hd.symm (show (AP b).getD (k-1) 0<(AP a).getD (k-1) 0 by omega)
      rw [Cs,Cs] at this;omega
  · rename_i h
    have h2:¬(AP a).getD (k-1) 0<(AP b).getD (k-1) 0:=λh1=>by
      have:=WL (By a) hl h0 hk hd h1
      rw [Cs,Cs] at this;omega
    rw [if_neg h2,if_neg]
    intro e;subst e;exact hne rfl
theorem XP {a b:Nat} (hd:(AP a).drop 0=(AP b).drop 0):DZ a b=0:=by
  rw [Nl]
  rw [List.drop_zero,List.drop_zero] at hd
  rw [<-Cs a,<-Cs b,hd]
theorem D1 {v i:Nat} (h:i<nw v):(A8 v).getD i 0=(AP v).getD i 0:=by
  rw [<-I7 v]
  simp [List.getD_eq_getElem?_getD,List.getElem?_take,h]
theorem FC {v i:Nat} (h:¬i<nw v):(AP v).getD i 0=0:=by
  unfold nw at h;simp [List.getD_eq_getElem?_getD,Nat.not_lt.1 h]
theorem Dj {v i:Nat} (h:nw v<=i):val ((AP v).take i)=v:=by
  rw [List.take_of_length_le h,Cs]
theorem Xp (v:Nat):(A8 v).length<=nw v+2:=by
  unfold A8;split
  · simp
  · unfold nw;omega
theorem Ia (v:Nat):val ((A8 v).take (nw v))=v:=by rw [I7,Cs]
theorem Ow {os ys:List Nat} {X i n c:Nat} (hl:os.length=n) (hi:i<n) (hv:val os+c*4294967296^i=X+val (ys.take i)) :
    val (os.set i ((os.getD i 0+ys.getD i 0+c)%4294967296))+(os.getD i 0+ys.getD i 0+c)/4294967296*4294967296^(i+1)=X+val (ys.take (i+1)):=by
  have e:=Fw (xs:=os) (i:=i) Z ((os.getD i 0+ys.getD i 0+c)%4294967296)
  have t:=Bf ys i
  have hm:=Nat.div_add_mod (os.getD i 0+ys.getD i 0+c) 4294967296
  rw [Nat.pow_succ]
  generalize os.getD i 0=o at *
  generalize ys.getD i 0=y at *
  generalize (o+y+c)/4294967296=q at *
  generalize (o+y+c)%4294967296=r at *
  generalize 4294967296^i=p at *
  have hm2:(4294967296*q+r)*p=(o+y+c)*p:=by rw [hm]
  grind
theorem Po {os:List Nat} {X Y n c i:Nat} (hl:os.length=n) (hw:W32 os) (hi:n<=i) (hX:X+Y<4294967296^n) (hv:val os+c*4294967296^i=X+Y):val os=X+Y:=by
  have h1:4294967296^n<=4294967296^i:=Nat.pow_le_pow_right Z hi
  rcases Nat.eq_zero_or_pos c with h|h
  · subst h;omega
  · have:1*4294967296^i<=c*4294967296^i:=Nat.mul_le_mul_right _ h
    omega
theorem WG {os ys:List Nat} {X i n c:Nat} (hl:os.length=n) (hi:i<n) (hw:W32 os) (hy:W32 ys) (hc:c<=1) (hv:val os+val (ys.take i)=X+c*4294967296^i) :
    val (os.set i ((os.getD i 0+(4294967296-ys.getD i 0)+(4294967296-c))%4294967296))+val (ys.take (i+1))=X+Jl (os.getD i 0) (ys.getD i 0+c)*4294967296^(i+1):=by
  have e:=Fw (xs:=os) (i:=i) Z ((os.getD i 0+(4294967296-ys.getD i 0)+(4294967296-c))%4294967296)
  have t:=Bf ys i
  have ho:=hw.getD i
  have hy':=hy.getD i
  rw [Nat.pow_succ]
  have hm:(os.getD i 0+(4294967296-ys.getD i 0)+(4294967296-c))%4294967296+ys.getD i 0+c=os.getD i 0+Jl (os.getD i 0) (ys.getD i 0+c)*4294967296:=by
    unfold Jl;split<;>omega
  generalize (os.getD i 0+(4294967296-ys.getD i 0)+(4294967296-c))%4294967296=r at *
  generalize Jl (os.getD i 0) (ys.getD i 0+c)=q at *
  generalize os.getD i 0=o at *
  generalize ys.getD i 0=y at *
  generalize 4294967296^i=p at *
  have hm2:(r+y+c)*p=(o+q*4294967296)*p:=by rw [hm]
  grind
theorem Wq {os:List Nat} {X Y n c i:Nat} (hl:os.length=n) (hw:W32 os) (hi:i=n) (hX:Y<=X) (hv:val os+Y=X+c*4294967296^i) (hX2:X<4294967296^n):val os=X-Y:=by
  have h1:=G7 hw
  rw [hl] at h1
  subst hi
  rcases Nat.eq_zero_or_pos c with h|h
  · subst h;omega
  · have:1*4294967296^i<=c*4294967296^i:=Nat.mul_le_mul_right _ h
    omega
theorem Rk (x y:Nat):Jl x y<=1:=by unfold Jl;split<;>omega
theorem V9 {os ys:List Nat} {S W i k n c:Nat} (hl:os.length=n) (hi:i+k<n) (hv:val os+c*4294967296^(i+k)=S+W*val (ys.take k)*4294967296^i) :
    val (os.set (i+k) ((c+(W*ys.getD k 0+os.getD (i+k) 0))%4294967296))+(c+(W*ys.getD k 0+os.getD (i+k) 0))/4294967296*4294967296^(i+(k+1))=S+W*val (ys.take (k+1))*4294967296^i:=by
  have e:=Fw (xs:=os) (i:=i+k) Z ((c+(W*ys.getD k 0+os.getD (i+k) 0))%4294967296)
  have t:=Bf ys k
  have hm:=Nat.div_add_mod (c+(W*ys.getD k 0+os.getD (i+k) 0)) 4294967296
  rw [t,show i+(k+1)=i+k+1 by omega,Nat.pow_succ]
  rw [Nat.pow_add] at *
  generalize os.getD (i+k) 0=o at *
  generalize ys.getD k 0=y at *
  generalize (c+(W*y+o))/4294967296=q at *
  generalize (c+(W*y+o))%4294967296=r at *
  generalize 4294967296^i=p at *
  generalize 4294967296^k=p' at *
  generalize val (ys.take k)=vy at *
  have hm2:(4294967296*q+r)*(p*p')=(c+(W*y+o))*(p*p'):=by rw [hm]
  grind
section
variable {n:Nat} {F:List (Nat×Value)} {w0:BC} {L:List As} {v:Value} {x y:Operand} {d:Option Tmp} {t:TypeId} {p:String} {af:Array Edge} {g:Option (Nat×Bool)}
theorem yu {ops:Array Oper} {rest:List Oper} {Q:Exit->Act->World->Prop} {L':List As} {i j b b' m c k c' dd:Nat} {cs ds ns cs':List Value} {o:Oper} (ho:o=⟨some dd,.call { callee:=.builtin .copy,args:=#[x,y],argTypes:=#[255,255] },t,p,af,g⟩) (hw:Wt ops n F o)
    (hx:evF F x=some (.slice (jk b) m c)) (hy:evF F y=some (.slice (some ⟨b',0,none⟩) k c')) (hi:L[i]?=some (AR b 92 cs)) (hj:L[j]?=some (AR b' 92 ds)) (hns:ds.take k=ns) (hnl:ns.length=k) (h1:(ns.all λu=>u.oneCell')=true) (hkm:k<=m) (hfit:k<=cs.length)
    (hcs:Gu cs 0 ns=cs') (hL:L.set i (AR b 92 cs')=L') (hd:dd<n) (next:AL prog ops rest Q n ((dd,.int .i64 k)::F) w0 L'):AL prog ops (o::rest) Q n F w0 L:=λa w ha hW=>by
  subst ho;subst hcs;subst hL
  unfold wpList
  rw [if_pos (hw a ha)]
  left
  have hca:=FP (off:=0) (k:=k) (hW.get hj)
  rw [List.drop_zero,hns] at hca
  have hr:=run_copy_row (P:=prog) w 255 255 t 92 b 0 m c ⟨b',0,none⟩ k c' cs.toArray 92 ns underlying255 jV (hW.get hi) (by rw [hnl];exact (Nat.min_eq_left hkm).symm) (λq u hu=>by rw [Addr.add_lit];exact hca q u hu) (by simp;omega) (λu hu=>List.all_eq_true.1 h1 u hu)
  unfold Oper.wp
  have he:(execOp a.eval ⟨some dd,.call { callee:=.builtin .copy,args:=#[x,y],argTypes:=#[255,255] },t,p,af,g⟩).run prog w=.ok (.value (.int .i64 k)) (w.setRow b (Gu cs 0 ns).toArray):=by
    simp only [execOp,resolve,invoke,builtin,Sem.run_bind,Sem.run_pure,Result.andThen_ok,List.map_toArray,List.map_cons,List.map_nil,ha.ev hx,ha.ev hy,hr,Gu,hnl,goInt]
  rw [he,Oper.upon_value]
  have hg:=hW.get hi
  exact next _ _ (ha.put hd) (hW.turn hi O O ⟨⟨rfl,rfl,rfl,by simp,λq _ hq=>setRow_other w b q _ (λe=>hq (by simp [e]))⟩,Nat.le_refl _⟩ ⟨_,setRow_heap w b cs.toArray _ 92 _ hg,rfl⟩)
end
theorem WT {a b:Nat} (h:nw b<=nw a):a+b<4294967296^(nw a+1):=by
  have h1:=Bz a
  have h2:b<4294967296^nw a:=DB.1 h
  rw [Nat.pow_succ];omega
theorem GA (v k:Nat):(AP v++(List.replicate (nw v+k) 0).drop (AP v).length).length=nw v+k/\W32 (AP v++(List.replicate (nw v+k) 0).drop (AP v).length)/\val (AP v++(List.replicate (nw v+k) 0).drop (AP v).length)=v:=by
  have e:(List.replicate (nw v+k) 0).drop (AP v).length=List.replicate k 0:=by rw [List.drop_replicate];congr 1;unfold nw;omega
  rw [e]
  refine ⟨by simp [nw],(By v).append (W32.zeros k),?_⟩
  rw [LK,Cs,Ep];omega
theorem Is {os:List Nat} {p c n:Nat} (hl:os.length=n) (hp:p<n) (h0:os.getD p 0=0):val (os.set p c)=val os+c*4294967296^p:=by
  have e:=Fw (xs:=os) (i:=p) Z c
  rw [h0] at e;omega
theorem Ru {os:List Nat} {a b i:Nat} (hv:val os=val ((AP a).take i)*b):∀j,i+nw b<=j->os.getD j 0=0:=λj hj=>by
  refine Gm (m:=i+nw b) ?_ hj
  rw [hv,Nat.pow_add]
  refine Nat.mul_lt_mul'' (Nat.lt_of_lt_of_le (G7 ((By a).take i)) (Nat.pow_le_pow_right Z (by simp;omega))) (Bz b)
theorem F9 {os:List Nat} {p q v:Nat} (h:∀j,p<=j->os.getD j 0=0) (hq:q<p):∀j,p<=j->(os.set q v).getD j 0=0:=λj hj=>by
  rw [List.getD_eq_getElem?_getD,List.getElem?_set_ne Z,<-List.getD_eq_getElem?_getD]
  exact h j hj
theorem Yj {a b i:Nat}:val ((AP a).take i)*b+(AP a).getD i 0*b*4294967296^i=val ((AP a).take (i+1))*b:=by
  rw [Bf];grind
theorem a0 {x y:Nat} (hx:x<18446744073709551616) (hy:y<18446744073709551616):val [x%4294967296,x/4294967296,y%4294967296,y/4294967296]=x+y*18446744073709551616:=by
  simp only [val];omega
theorem P8 (xs:List Nat):((Ao xs).all λu=>u.oneCell')=true:=List.all_eq_true.2 (W1 xs)
theorem NH (xs:List Nat) (k:Nat):(Ao xs).take k=Ao (xs.take k):=by simp [Ao,List.map_take]
theorem QW (xs ns:List Nat):Gu (Ao xs) 0 (Ao ns)=Ao (ns++xs.drop ns.length):=by simp [Gu,Ao,List.map_drop]
end
section
set_option maxRecDepth 100000
theorem a9 (a b p q c c2:Nat) (ha:nw a<=1099511627776) (hb:nw b<=1099511627776) (w:World) (hp:w.heap[p]?=some (.cells (Ao (A8 a)).toArray 92 (0,0))) (hq:w.heap[q]?=some (.cells (Ao (A8 b)).toArray 92 (0,0))):Calls prog 271 #[(qw (jk p) (nw a) c),(qw (jk q) (nw b) c2)] w (Ak w (vI (DZ a b))):=by
 have hla:=Ci a
 have hlb:=Ci b
 refine Ab (args:=[(qw (jk p) (nw a) c),(qw (jk q) (nw b) c2)]) func271 O O (Av O) (zN (sL [0,1] O) (q4 (asg' O (oNl' (q1 (q4 (AM O (AG (v:=(vN (nw a))) (AC O underlying255) O (AM O (AG (v:=(vN (nw b))) (AC O underlying255) O (AG (Bt (c:=(decide ((nw a)≠(nw b)))) O O (bR (a:=nw a) (b:=nw b))) O ?_)))))))))))
 refine oNl' (zB (sL [0,1,4,10] O) (zA ?_))
 refine zM O (λhc0=>?_) (λhc0=>?_)
 ·replace hc0:=xR hc0
  refine q4 (AM O (AG (v:=(vN (nw a))) (AC O underlying255) O (AM O (AG (v:=(vN (nw b))) (AC O underlying255) O (AG (BY (c:=((nw a:Int)-(nw b:Int))) O O (BP Z Z)) O (ck' call296 (Xv _ Z Z) O (zC (k:=16) (u:=(vI (DZ a b))) O (by rw [YE hc0]) (asg' O (oNl' (zB (sL [0,1,4] O) (zA ?_)))))))))))
  exact zF (zO (ret_one O (rd_tmp (v:=(vI (DZ a b))) O) (λw hw=>⟨rfl,hw.out⟩)))
 ·replace hc0:=xQ hc0
  refine zG (q1 (q4 (AM O (AG (v:=(vN (nw a))) (AC O underlying255) O (AG (BY (c:=(((nw a:Nat):Int)-1)) O O (BP Z Z)) O (asg' O (oNl' (zB (sL [0,1,4,5] O) (zA (zI ?_))))))))))
  refine zo (tg λ(k:Nat)=>k<=nw a/\(AP a).drop k=(AP b).drop k) (tg λ(k:Nat)=>[(0,(qw (jk p) (nw a) c)),(1,(qw (jk q) (nw b) c2)),(5,(vI (((k:Nat):Int)-1)))]) (tg λ(k:Nat)=>[]) (tg λ(k:Nat)=>k) (nw a) (⟨Nat.le_refl _,by rw [List.drop_of_length_le (by exact Nat.le_refl _),List.drop_of_length_le (by unfold nw at *;omega)]⟩) (sF O) sr (λk hJ=>?_)
  obtain ⟨hk,hd⟩:=hJ
  refine zV (q4 (AM O (AG (Bp (c:=(decide ((0:Int)<=(((k:Nat):Int)-1)))) O O O) O (oNl' (zB (sL [0,1,5,21] O) (zA ?_))))))
  refine zM O (λhc1=>?_) (λhc1=>?_)
  ·replace hc1:=xR hc1
   have hk0:0<k:=by omega
   refine yF (k:=5) (u:=(vN (k-1))) O (by congr 1;omega) (zG (q1 (zI (zV (CQ (Db 9) sr ?_)))))
   have ea:(A8 a).getD (k-1) 0=(AP a).getD (k-1) 0:=D1 Z
   have eb:(A8 b).getD (k-1) 0=(AP b).getD (k-1) 0:=D1 Z
   refine BT O (BT O (Aj (v:=(pP p (k-1))) O (AO (j:=k-1) O O underlying255 sizeOf92 O Z jX) ?_))
   have hx1:(A8 a).getD (k-1) 0<4294967296:=W32.getD (Cm a) (k-1)
   refine Aj O (Bc (v:=(vK .u32 ((A8 a).getD (k-1) 0))) O (λw' hw=>CA.at0 (hw.oldCA jX (FA hp)) (BH (xs:=A8 a) (j:=(k-1)) Z)) isAgg92) (BT O (BT O (Aj (v:=(pP q (k-1))) O (AO (j:=k-1) O O underlying255 sizeOf92 O Z jX) ?_)))
   have hx2:(A8 b).getD (k-1) 0<4294967296:=W32.getD (Cm b) (k-1)
   refine Aj O (Bc (v:=(vK .u32 ((A8 b).getD (k-1) 0))) O (λw' hw=>CA.at0 (hw.oldCA jX (FA hq)) (BH (xs:=A8 b) (j:=(k-1)) Z)) isAgg92) (Aj O (Bt (c:=(decide (((A8 a).getD (k-1) 0)≠((A8 b).getD (k-1) 0)))) O O (bR (a:=(A8 a).getD (k-1) 0) (b:=(A8 b).getD (k-1) 0))) (zT (zB (sL [0,1,5,32] O) (zA ?_))))
   refine zM O (λhc2=>?_) (λhc2=>?_)
   ·replace hc2:=xR hc2
    have hcw:=Tj Z hk0 hk hd Z
    refine zV (zV (CQ (Db 9) sr (BT O (BT O (Aj (v:=(pP p (k-1))) O (AO (j:=k-1) O O underlying255 sizeOf92 O Z jX) ?_)))))
    have hx3:(A8 a).getD (k-1) 0<4294967296:=W32.getD (Cm a) (k-1)
    refine Aj O (Bc (v:=(vK .u32 ((A8 a).getD (k-1) 0))) O (λw' hw=>CA.at0 (hw.oldCA jX (FA hp)) (BH (xs:=A8 a) (j:=(k-1)) Z)) isAgg92) (BT O (BT O (Aj (v:=(pP q (k-1))) O (AO (j:=k-1) O O underlying255 sizeOf92 O Z jX) ?_)))
    have hx4:(A8 b).getD (k-1) 0<4294967296:=W32.getD (Cm b) (k-1)
    refine Aj O (Bc (v:=(vK .u32 ((A8 b).getD (k-1) 0))) O (λw' hw=>CA.at0 (hw.oldCA jX (FA hq)) (BH (xs:=A8 b) (j:=(k-1)) Z)) isAgg92) (Aj O (Ae (c:=(decide (((A8 a).getD (k-1) 0)<((A8 b).getD (k-1) 0)))) O O (CM (a:=(A8 a).getD (k-1) 0) (b:=(A8 b).getD (k-1) 0))) (zT (zB (sL [0,1,5,41] O) (zA ?_))))
    refine zM O (λhc3=>?_) (λhc3=>?_)
    ·replace hc3:=xR hc3
     rw [if_pos Z] at hcw
     exact q4 (asg' O (oNl' (zA (zF (zO (zY (zO (zk (zY (zO (ret_one O (rd_tmp (v:=(vI (-1:Int))) O) (λw hw=>⟨by rw [hcw],hw.out⟩))))))))))))
    ·replace hc3:=xQ hc3
     rw [if_neg Z] at hcw
     exact zG (q2 (asg' O (oNl' (zA (zF (zY (zO (zk (zY (zO (ret_one O (rd_tmp (v:=(vI 1)) O) (λw hw=>⟨by rw [hcw],hw.out⟩))))))))))))
   ·replace hc2:=xQ hc2
    exact zG (zJ (zA (zH (AM O (AG (BY (c:=(((k-1:Nat):Int)-1)) O O (BP Z Z)) O (asg' O (oNl' (zB (sL [0,1,5] O) (zc (k-1) (⟨Z,Tu (by unfold nw at hc0;omega) Z hk hd Z⟩) Z (sF O) sr)))))))))
  ·replace hc1:=xQ hc1
   have hk0:k=0:=by omega
   subst hk0
   have hz:=XP hd
   exact zU (zP (za (zS (q2 (asg' O (oNl' (zA (zF (ret_one O (rd_tmp (v:=(vI 0)) O) (λw hw=>⟨by rw [hz],hw.out⟩))))))))))
end
section
set_option maxRecDepth 100000
theorem WY (a b:Nat) (ha:nw a<=1099511627776) (hb:nw b<=1099511627776) (w:World)  :Calls prog 242 #[(aG (Aa a)),(aG (Aa b))] w (Ak w (vI (DZ a b))):=by
 refine Ab (args:=[(aG (Aa a)),(aG (Aa b))]) func242 O O (Av O) (zN (sL [0,1] O) (q4 (Bb (cs:=Aa a) O λb1=>Bb (cs:=Aa b) O λb2=>asg' O (q6 (sL [2,3,4] O) (q4 (AG (v:=(pP b1 1)) (AA O underlying71 O sizeOf9 O) O (Az 1 (Value.string (Bo a)) UV O (AG (Bq (c:=(decide (a<18446744073709551616))) O O C1) O (AM O ?_)))))))))
 refine zX (FM:=[(2,(pP b1 0)),(3,(pP b2 0)),(4,(vI 0)),(5,(pP b1 1)),(6,(Value.string (Bo a))),(7,(qa (decide (a<18446744073709551616)))),(8,(qa (decide (a<18446744073709551616)))),(12,(qa ((decide (a<18446744073709551616))&&(decide (b<18446744073709551616)))))]) (LM:=[AR b2 71 (Aa b),AR b1 71 (Aa a)]) 4 ?_ ?_
 ·rcases xO (decide (a<18446744073709551616)) with hg1|hg1
  ·refine zC (k:=8) (u:=qa true) O (by rw [hg1]) ?_
   have hg1':=xR hg1
   exact Au (v:=(pP b2 1)) O (AA O underlying71 O sizeOf9 O) (Au (v:=(Value.string (Bo b))) O (AE (i:=0) (v:=(Value.string (Bo b))) O O UV.a O) (Au (v:=(qa (decide (b<18446744073709551616)))) O (Bq (c:=(decide (b<18446744073709551616))) O O C1) (AG (v:=(qa (decide (b<18446744073709551616)))) (AN O O) O (oNl' (zR Bg (xP _))))))
  ·refine zC (k:=8) (u:=qa false) O (by rw [hg1]) ?_
   have hg1':=xQ hg1
   exact Ar O (Ar O (Ar O (AG (v:=(qa false)) (AI O O) O (oNl' (zR Bg (xP _))))))
 refine oNl' (zB (sL [2,3,4,12] O) (zA ?_))
 refine yk (tg True) (tg [(2,(pP b1 0)),(3,(pP b2 0))]) (tg [AR b2 71 (Aa b),AR b1 71 (Aa a)]) ?_ ?_
 ·refine zM O (λhc0=>?_) (λhc0=>?_)
  ·simp only [jK] at hc0
   refine zV (zI (q4 (AG (v:=(pP b1 0)) (AA O underlying71 O sizeOf69 O) O (Az 1 (vK .u64 (CF a)) HH O (zC (k:=15) (u:=(vK .u64 a)) O (by rw [Bl hc0.1]) (AG (v:=(pP b2 0)) (AA O underlying71 O sizeOf69 O) O (Az 0 (vK .u64 (CF b)) HH O (zC (k:=17) (u:=(vK .u64 b)) O (by rw [Bl hc0.2]) (AG (Ae (c:=(decide (a<b))) O O (CM (a:=a) (b:=b))) O (asg' O (oNl' ?_)))))))))))
   refine zB (sL [2,3,4,13] O) (zA ?_)
   refine zM O (λhc1=>?_) (λhc1=>?_)
   ·replace hc1:=xR hc1
    have hz:DZ a b = -1:=if_pos hc1
    exact q4 (asg' O (oNl' (zA (zF (zY (zO (yW (zO (ret_one O (rd_tmp (v:=(vI (-1:Int))) O) (λw hw=>⟨by rw [hz],hw.out⟩))))))))))
   ·replace hc1:=xQ hc1
    refine q4 (AG (v:=(pP b1 0)) (AA O underlying71 O sizeOf69 O) O (Az 1 (vK .u64 (CF a)) HH O (zC (k:=21) (u:=(vK .u64 a)) O (by rw [Bl hc0.1]) (AG (v:=(pP b2 0)) (AA O underlying71 O sizeOf69 O) O (Az 0 (vK .u64 (CF b)) HH O (zC (k:=23) (u:=(vK .u64 b)) O (by rw [Bl hc0.2]) (AG (Bv (c:=(decide (b<a))) O O (CM (a:=b) (b:=a))) O (asg' O (oNl' (zB (sL [2,3,4,19] O) (zA ?_)))))))))))
    refine zM O (λhc2=>?_) (λhc2=>?_)
    ·replace hc2:=xR hc2
     have hz:DZ a b=1:=by unfold DZ;rw [if_neg Z,if_neg Z]
     exact q4 (asg' O (oNl' (zA (zF (zY (zO (yW (zO (ret_one O (rd_tmp (v:=(vI 1)) O) (λw hw=>⟨by rw [hz],hw.out⟩))))))))))
    ·replace hc2:=xQ hc2
     have hz:DZ a b=0:=Nl.2 Z
     exact zG (zJ (q2 (asg' O (oNl' (zA (zF (yW (zO (ret_one O (rd_tmp (v:=(vI 0)) O) (λw hw=>⟨by rw [hz],hw.out⟩))))))))))
  ·simp only [jK] at hc0
   exact zG (yG  (trivial) (sF O) sr)
 ·intro hJ
  refine q1 (CQ [(0,true),(2,true),(1,false),(3,false),(4,false),(5,true)] sr (EC 1 CD O (EC 0 CD O (zK O (z7 (V:=λb3=>(qw (jk b3) (nw a) ((A8 a).length))) (T:=92) (cs:=Ao (A8 a)) (AJ O) (Aw (args:=[(aG (Aa a))]) O O call187) (λw hw=>Dc a Z w) O (Av O) λb3=>zD (sl sr) (zK O (z7 (V:=λb4=>(qw (jk b4) (nw b) ((A8 b).length))) (T:=92) (cs:=Ao (A8 b)) (AJ O) (Aw (args:=[(aG (Aa b))]) O O call187) (λw hw=>Dc b Z w) O (Av O) λb4=>zD (sl (sl sr)) (zK O (Ct call271 (λw hw=>a9 a b _ _ _ _ Z Z w (hw.get (i:=1) O) (hw.get (i:=0) O)) O ?_)))))))))
  exact zD (sl (sl sr)) (pS' O (zT (zB (sL [2,3,4] O) (zA (zF (ret_one O (rd_tmp (v:=(vI (DZ a b))) O) (λw hw=>⟨rfl,hw.out⟩)))))))
theorem VC (a b:Nat) (ha:nw a<=1099511627776) (hb:nw b<=1099511627776) (w:World)  :Calls prog 194 #[(aG (Aa a)),(aG (Aa b))] w (Ak w (aG (Aa (a+b)))):=by
 have hla:=Ci a
 have hlb:=Ci b
 refine Ab (args:=[(aG (Aa a)),(aG (Aa b))]) func194 O O (Av O) (zN (sL [0,1] O) (q4 (Bb (cs:=Aa a) O λb1=>Bb (cs:=Aa b) O λb2=>al Gf O λb3=>q6 (sL [2,3,4] O) (q4 (AG (v:=(pP b1 1)) (AA O underlying71 O sizeOf9 O) O (Az 2 (Value.string (Bo a)) UV O (AG (Bq (c:=(decide (a<18446744073709551616))) O O C1) O (AM O ?_))))))))
 refine zX (FM:=[(2,(pP b1 0)),(3,(pP b2 0)),(4,(pP b3 0)),(13,(pP b1 1)),(14,(Value.string (Bo a))),(15,(qa (decide (a<18446744073709551616)))),(16,(qa (decide (a<18446744073709551616)))),(20,(qa ((decide (a<18446744073709551616))&&(decide (b<18446744073709551616)))))]) (LM:=[AR b3 71 (Aa 0),AR b2 71 (Aa b),AR b1 71 (Aa a)]) 4 ?_ ?_
 ·rcases xO (decide (a<18446744073709551616)) with hg1|hg1
  ·refine zC (k:=16) (u:=qa true) O (by rw [hg1]) ?_
   have hg1':=xR hg1
   exact Au (v:=(pP b2 1)) O (AA O underlying71 O sizeOf9 O) (Au (v:=(Value.string (Bo b))) O (AE (i:=1) (v:=(Value.string (Bo b))) O O UV.a O) (Au (v:=(qa (decide (b<18446744073709551616)))) O (Bq (c:=(decide (b<18446744073709551616))) O O C1) (AG (v:=(qa (decide (b<18446744073709551616)))) (AN O O) O (oNl' (zR Bg (xP _))))))
  ·refine zC (k:=16) (u:=qa false) O (by rw [hg1]) ?_
   have hg1':=xQ hg1
   exact Ar O (Ar O (Ar O (AG (v:=(qa false)) (AI O O) O (oNl' (zR Bg (xP _))))))
 refine oNl' (zB (sL [2,3,4,20] O) (zA ?_))
 refine yk (tg True) (tg [(2,(pP b1 0)),(3,(pP b2 0)),(4,(pP b3 0))]) (tg [AR b3 71 (Aa 0),AR b2 71 (Aa b),AR b1 71 (Aa a)]) ?_ ?_
 ·refine zM O (λhc0=>?_) (λhc0=>?_)
  ·simp only [jK] at hc0
   refine q4 (AG (v:=(pP b1 0)) (AA O underlying71 O sizeOf69 O) O (Az 2 (vK .u64 (CF a)) HH O (zC (k:=23) (u:=(vK .u64 a)) O (by rw [Bl hc0.1]) (AG (v:=(pP b2 0)) (AA O underlying71 O sizeOf69 O) O (Az 1 (vK .u64 (CF b)) HH O (zC (k:=25) (u:=(vK .u64 b)) O (by rw [Bl hc0.2]) (AG (v:=(Value.tuple #[(vK .u64 ((a+b+0)%18446744073709551616)),(vK .u64 ((a+b+0)/18446744073709551616))])) (UG (args:=[(vK .u64 a),(vK .u64 b),(Value.int .u64 (0:Int))]) O O (λw=>TQ func239 jV jV jV jV a b 0 Z w)) O (AM O (AG (AZ (v:=(vK .u64 ((a+b+0)%18446744073709551616))) O O) O (AG (AZ (v:=(vK .u64 ((a+b+0)/18446744073709551616))) O O) O (asg' O ?_)))))))))))
   refine asg' O (q3 (sL [2,3,4,5,6] O) (AM O (AG (BO (c:=(decide (((a+b+0)/18446744073709551616)=0))) O O (Mf (a:=(a+b+0)/18446744073709551616) (b:=0))) O (oNl' (zB (sL [2,3,4,5,30] O) (zA ?_))))))
   refine zM O (λhc1=>?_) (λhc1=>?_)
   ·replace hc1:=xR hc1
    exact q4 (AM O (AG (v:=(aG ([(vK .u64 ((a+b+0)%18446744073709551616)),(Value.string (Bo 0))]))) (AT (zs:=Aa 0) (vs:=[(vK .u64 ((a+b+0)%18446744073709551616)),(Value.string (Bo 0))]) (pv:=[(0,(vK .u64 ((a+b+0)%18446744073709551616)))]) (places:=[(0,1),(1,1)]) zeroValue71 underlying71 (λw=>by simp [sizeOf9,sizeOf69]) O O) O (zC (k:=32) (u:=(aG (Aa (a+b)))) O (by rw [EI Z,show (a+b+0)%18446744073709551616=a+b by omega];rfl) (Ax O sizeOf71 O (oNl' (zB (sL [2,3,4] O) (zA (zF (yW (zO (ret_one O (Ai (i:=0) (cs:=Aa (a+b)) O O isAgg71 sizeOf71 O) (λw hw=>⟨rfl,hw.out⟩))))))))))))
   ·replace hc1:=xQ hc1
    exact zG (yG  (trivial) (sF O) sr)
  ·simp only [jK] at hc0
   exact zG (yG  (trivial) (sF O) sr)
 ·intro hJ
  refine q1 (CQ [(0,true),(2,true),(1,false),(3,false),(4,true),(5,true)] sr (EC 2 CD O (EC 1 CD O (zK O (z7 (V:=λb4=>(qw (jk b4) (nw a) ((A8 a).length))) (T:=92) (cs:=Ao (A8 a)) (AJ O) (Aw (args:=[(aG (Aa a))]) O O call187) (λw hw=>Dc a Z w) O (Av O) λb4=>zD (sl sr) (zK O (z7 (V:=λb5=>(qw (jk b5) (nw b) ((A8 b).length))) (T:=92) (cs:=Ao (A8 b)) (AJ O) (Aw (args:=[(aG (Aa b))]) O O call187) (λw hw=>Dc b Z w) O (Av O) λb5=>zD (sl (sl sr)) (pS' O (pS' O ?_)))))))))
  refine zT (zB (sL [2,3,4,7,8] O) (q1 (q4 (AM O (AG (v:=(vN (nw a))) (AC O underlying255) O (AM O (AG (v:=(vN (nw b))) (AC O underlying255) O (AG (Ae (c:=(decide ((nw a)<(nw b)))) O O (CM (a:=nw a) (b:=nw b))) O (oNl' (zB (sL [2,3,4,7,8,41] O) (zA ?_)))))))))))
  refine zM O (λhc2=>?_) (λhc2=>?_)
  ·replace hc2:=xR hc2
   refine zH (AM O (AM O (asg' O (asg' O (q3 (sL [2,3,4,7,8] O) (AM O (AG (v:=(vN (nw b))) (AC O underlying255) O (AG (AW (c:=(((nw b)+1:Nat):Int)) O O (AU (a:=nw b) (b:=1) Z)) O (zZ (V:=λb6=>(qw (jk b6) ((nw b)+1) ((nw b)+1))) (T:=92) (cs:=Ao (List.replicate ((nw b)+1) 0)) (AJ O) (Dg (m:=(nw b)+1) (c:=(nw b)+1) O O Z Z) O (Av O) λb6=>asg' O (q3 (sL [2,3,4,7,8,9] O) ?_))))))))))
   refine AM O (AM O (yu (i:=0) (j:=1) (ns:=Ao (AP b)) (cs':=Ao (AP b++(List.replicate (nw b+1) 0).drop (AP b).length)) (L':=[AR b6 92 (Ao (AP b++(List.replicate (nw b+1) 0).drop (AP b).length)),AR b5 92 (Ao (A8 b)),AR b4 92 (Ao (A8 a)),AR b3 71 (Aa 0),AR b2 71 (Aa b),AR b1 71 (Aa a)]) O (AJ O) O O O O (by rw [NH,I7]) (BW _) (P8 _) Z (by rw [BW];simp;try omega) (QW _ _) O (Av O) (q3 (sL [2,3,4,7,8,9] O) (asg' O (oNl' (q1 (q4 (AM O (AG (v:=(vN ((nw b)+1))) (AC O underlying255) O (AM O (oNl' ?_)))))))))))
   refine zB (sL [2,3,4,7,8,9,10,52,53] O) (zA (zI ?_))
   refine yS (tg λ(i:Nat) (os:List Nat) (c:Nat)=>i<=nw b+1/\os.length=nw b+1/\W32 os/\c<=1/\val os+c*4294967296^i=b+val ((AP a).take i)) (tg λ(i:Nat) (os:List Nat) (c:Nat)=>[(4,(pP b3 0)),(8,(qw (jk b4) (nw a) ((A8 a).length))),(9,(qw (jk b6) ((nw b)+1) ((nw b)+1))),(52,(vN ((nw b)+1))),(53,(vN i)),(10,(vK .u32 c))]) (tg λ(i:Nat) (os:List Nat) (c:Nat)=>[AR b6 92 (Ao os),AR b5 92 (Ao (A8 b)),AR b4 92 (Ao (A8 a)),AR b3 71 (Aa 0),AR b2 71 (Aa b),AR b1 71 (Aa a)]) (tg λ(i:Nat) (os:List Nat) (c:Nat)=>nw b+1-i) 0 (AP b++(List.replicate (nw b+1) 0).drop (AP b).length) 0 (⟨xH _,(GA b 1).1,(GA b 1).2.1,Z,by rw [(GA b 1).2.2];simp [val]⟩) (sF O) sr (λi os c hJ=>?_)
   obtain ⟨hi,hl,hw32,hcc,hv⟩:=hJ
   refine q4 (AG (Ae (c:=(decide (i<((nw b)+1)))) O O (CM (a:=i) (b:=(nw b)+1))) O (oNl' (q1 ?_)))
   refine zM O (λhc3=>?_) (λhc3=>?_)
   ·replace hc3:=xR hc3
    refine zG (q1 (zI (q4 (AM O (asg' O (q3 (sL [4,8,9,52,53,10,11] O) (asg' O (oNl' (q1 (q4 (AM O ?_)))))))))))
    refine AM O (AG (v:=(vN (nw a))) (AC O underlying255) O (AG (Ae (c:=(decide (i<(nw a)))) O O (CM (a:=i) (b:=nw a))) O (oNl' (zB (sL [4,8,9,52,53,10,11,12,59] O) (zA ?_)))))
    refine yk (tg True) (tg [(4,(pP b3 0)),(8,(qw (jk b4) (nw a) ((A8 a).length))),(9,(qw (jk b6) ((nw b)+1) ((nw b)+1))),(52,(vN ((nw b)+1))),(53,(vN i)),(10,(vK .u32 c)),(11,(vN i)),(12,(vK .u32 ((AP a).getD i 0)))]) (tg [AR b6 92 (Ao os),AR b5 92 (Ao (A8 b)),AR b4 92 (Ao (A8 a)),AR b3 71 (Aa 0),AR b2 71 (Aa b),AR b1 71 (Aa a)]) ?_ ?_
    ·refine zM O (λhc4=>?_) (λhc4=>?_)
     ·replace hc4:=xR hc4
      refine zH (AM O (AM O (AG (v:=(pP b4 i)) (AO (j:=i) O O underlying255 sizeOf92 O Z jX) O ?_)))
      have hx1:(A8 a).getD i 0<4294967296:=W32.getD (Cm a) i
      exact AG (AE (i:=2) (v:=(vK .u32 ((A8 a).getD i 0))) O O isAgg92 (BH (xs:=A8 a) (j:=i) Z)) O (zC (k:=63) (u:=(vK .u32 ((AP a).getD i 0))) O (by rw [D1 hc4]) (asg' O (oNl' (zB (sL [4,8,9,52,53,10,11,12] O) (yG  (trivial) (sF O) sr)))))
     ·replace hc4:=xQ hc4
      exact zG (yb (k:=12) (u:=Value.int .u32 (((AP a).getD i 0:Nat):Int)) O (by rw [FC hc4];rfl) (yG  (trivial) (sF O) sr))
    ·intro hJ
     refine zA (zH (AM O (AM O (AM O (AM O (AG (v:=(pP b6 i)) (AO (j:=i) O O underlying255 sizeOf92 O Z jX) O ?_))))))
     have hx2:os.getD i 0<4294967296:=W32.getD hw32 i
     refine AG (AE (i:=0) (v:=(vK .u32 (os.getD i 0))) O O isAgg92 (BH (xs:=os) (j:=i) Z)) O (AM O (AM O ?_))
     have hya:=(By a).getD i
     have hyb:=(By b).getD i
     refine ck' call240 (LT (os.getD i 0) ((AP a).getD i 0) c Z Z Z) O (AM O (AG (AZ (v:=(vK .u32 (((os.getD i 0)+((AP a).getD i 0)+c)%4294967296))) O O) O (AG (AZ (v:=(vK .u32 (((os.getD i 0)+((AP a).getD i 0)+c)/4294967296))) O O) O (AG (v:=(pP b6 i)) (AO (j:=i) O O underlying255 sizeOf92 O Z jX) O (zw (i:=0) (off:=i) (vs:=[(vK .u32 (((os.getD i 0)+((AP a).getD i 0)+c)%4294967296))]) (cs':=Ao (os.set i (((os.getD i 0)+((AP a).getD i 0)+c)%4294967296))) (L':=[AR b6 92 (Ao (os.set i (((os.getD i 0)+((AP a).getD i 0)+c)%4294967296))),AR b5 92 (Ao (A8 b)),AR b4 92 (Ao (A8 a)),AR b3 71 (Aa 0),AR b2 71 (Aa b),AR b1 71 (Aa a)]) (AJ O) O O O O O sizeOf92 O (C7 (BW _) Z) (CZ Z) O (asg' O (oNl' (zB (sL [4,8,9,52,53,10,11,12] O) (zJ (zA (zH ?_)))))))))))
     exact AG (AW (c:=((i+1:Nat):Int)) O O (AU (a:=i) (b:=1) Z)) O (AM O (oNl' (zB (sL [4,8,9,52,53,10,11,12] O) (yB (i+1) (os.set i ((os.getD i 0+(AP a).getD i 0+c)%4294967296)) ((os.getD i 0+(AP a).getD i 0+c)/4294967296) (⟨Z,by rw [List.length_set];exact hl,W32.set hw32 Z i,Z,Ow hl hc3 hv⟩) Z (sF O) sr))))
   ·replace hc3:=xQ hc3
    refine zU (zP (zx (zS (q2 (AM O (Ct call206 (λw hw=>J0 _ ((nw b)+1) ((nw b)+1) os hw32 (by first|omega|(rw [rowN_length];omega)|simp|(simp;omega)) (by first|omega|simp|(simp;omega)) (by first|omega|simp|(simp;omega)) w (hw.get (i:=0) O)) O (zC (k:=79) (u:=(aG (Aa (a+b)))) O (by rw [List.take_of_length_le (show os.length<=nw b+1 by omega),Po (X:=b) (Y:=a) (c:=c) (i:=i) hl hw32 Z (WT Z) (by rw [hv,Dj Z]),Nat.add_comm]) (I2 O sizeOf71 O (oNl' (zB (sL [4,8,9,52,53,10] O) (zA ?_)))))))))))
    exact zF (ret_one O (Ai (i:=3) (cs:=Aa (a+b)) O O isAgg71 sizeOf71 O) (λw hw=>⟨rfl,hw.out⟩))
  ·replace hc2:=xQ hc2
   refine zG (q2 (AM O (AG (v:=(vN (nw a))) (AC O underlying255) O (AG (AW (c:=(((nw a)+1:Nat):Int)) O O (AU (a:=nw a) (b:=1) Z)) O (zZ (V:=λb6=>(qw (jk b6) ((nw a)+1) ((nw a)+1))) (T:=92) (cs:=Ao (List.replicate ((nw a)+1) 0)) (AJ O) (Dg (m:=(nw a)+1) (c:=(nw a)+1) O O Z Z) O (Av O) λb6=>asg' O (q3 (sL [2,3,4,7,8,9] O) (AM O (AM O (yu (i:=0) (j:=2) (ns:=Ao (AP a)) (cs':=Ao (AP a++(List.replicate (nw a+1) 0).drop (AP a).length)) (L':=[AR b6 92 (Ao (AP a++(List.replicate (nw a+1) 0).drop (AP a).length)),AR b5 92 (Ao (A8 b)),AR b4 92 (Ao (A8 a)),AR b3 71 (Aa 0),AR b2 71 (Aa b),AR b1 71 (Aa a)]) O (AJ O) O O O O (by rw [NH,I7]) (BW _) (P8 _) Z (by rw [BW];simp;try omega) (QW _ _) O (Av O) (q3 (sL [2,3,4,7,8,9] O) ?_))))))))))
   refine asg' O (oNl' (q1 (q4 (AM O (AG (v:=(vN ((nw a)+1))) (AC O underlying255) O (AM O (oNl' (zB (sL [2,3,4,7,8,9,10,52,53] O) (zA (zI ?_))))))))))
   refine yS (tg λ(i:Nat) (os:List Nat) (c:Nat)=>i<=nw a+1/\os.length=nw a+1/\W32 os/\c<=1/\val os+c*4294967296^i=a+val ((AP b).take i)) (tg λ(i:Nat) (os:List Nat) (c:Nat)=>[(4,(pP b3 0)),(8,(qw (jk b5) (nw b) ((A8 b).length))),(9,(qw (jk b6) ((nw a)+1) ((nw a)+1))),(52,(vN ((nw a)+1))),(53,(vN i)),(10,(vK .u32 c))]) (tg λ(i:Nat) (os:List Nat) (c:Nat)=>[AR b6 92 (Ao os),AR b5 92 (Ao (A8 b)),AR b4 92 (Ao (A8 a)),AR b3 71 (Aa 0),AR b2 71 (Aa b),AR b1 71 (Aa a)]) (tg λ(i:Nat) (os:List Nat) (c:Nat)=>nw a+1-i) 0 (AP a++(List.replicate (nw a+1) 0).drop (AP a).length) 0 (⟨xH _,(GA a 1).1,(GA a 1).2.1,Z,by rw [(GA a 1).2.2];simp [val]⟩) (sF O) sr (λi os c hJ=>?_)
   obtain ⟨hi,hl,hw32,hcc,hv⟩:=hJ
   refine q4 (AG (Ae (c:=(decide (i<((nw a)+1)))) O O (CM (a:=i) (b:=(nw a)+1))) O (oNl' (q1 ?_)))
   refine zM O (λhc3=>?_) (λhc3=>?_)
   ·replace hc3:=xR hc3
    refine zG (q1 (zI (q4 (AM O (asg' O (q3 (sL [4,8,9,52,53,10,11] O) (asg' O (oNl' (q1 (q4 (AM O ?_)))))))))))
    refine AM O (AG (v:=(vN (nw b))) (AC O underlying255) O (AG (Ae (c:=(decide (i<(nw b)))) O O (CM (a:=i) (b:=nw b))) O (oNl' (zB (sL [4,8,9,52,53,10,11,12,59] O) (zA ?_)))))
    refine yk (tg True) (tg [(4,(pP b3 0)),(8,(qw (jk b5) (nw b) ((A8 b).length))),(9,(qw (jk b6) ((nw a)+1) ((nw a)+1))),(52,(vN ((nw a)+1))),(53,(vN i)),(10,(vK .u32 c)),(11,(vN i)),(12,(vK .u32 ((AP b).getD i 0)))]) (tg [AR b6 92 (Ao os),AR b5 92 (Ao (A8 b)),AR b4 92 (Ao (A8 a)),AR b3 71 (Aa 0),AR b2 71 (Aa b),AR b1 71 (Aa a)]) ?_ ?_
    ·refine zM O (λhc4=>?_) (λhc4=>?_)
     ·replace hc4:=xR hc4
      refine zH (AM O (AM O (AG (v:=(pP b5 i)) (AO (j:=i) O O underlying255 sizeOf92 O Z jX) O ?_)))
      have hx3:(A8 b).getD i 0<4294967296:=W32.getD (Cm b) i
      exact AG (AE (i:=1) (v:=(vK .u32 ((A8 b).getD i 0))) O O isAgg92 (BH (xs:=A8 b) (j:=i) Z)) O (zC (k:=63) (u:=(vK .u32 ((AP b).getD i 0))) O (by rw [D1 hc4]) (asg' O (oNl' (zB (sL [4,8,9,52,53,10,11,12] O) (yG  (trivial) (sF O) sr)))))
     ·replace hc4:=xQ hc4
      exact zG (yb (k:=12) (u:=Value.int .u32 (((AP b).getD i 0:Nat):Int)) O (by rw [FC hc4];rfl) (yG  (trivial) (sF O) sr))
    ·intro hJ
     refine zA (zH (AM O (AM O (AM O (AM O (AG (v:=(pP b6 i)) (AO (j:=i) O O underlying255 sizeOf92 O Z jX) O ?_))))))
     have hx4:os.getD i 0<4294967296:=W32.getD hw32 i
     refine AG (AE (i:=0) (v:=(vK .u32 (os.getD i 0))) O O isAgg92 (BH (xs:=os) (j:=i) Z)) O (AM O (AM O ?_))
     have hya:=(By a).getD i
     have hyb:=(By b).getD i
     refine ck' call240 (LT (os.getD i 0) ((AP b).getD i 0) c Z Z Z) O (AM O (AG (AZ (v:=(vK .u32 (((os.getD i 0)+((AP b).getD i 0)+c)%4294967296))) O O) O (AG (AZ (v:=(vK .u32 (((os.getD i 0)+((AP b).getD i 0)+c)/4294967296))) O O) O (AG (v:=(pP b6 i)) (AO (j:=i) O O underlying255 sizeOf92 O Z jX) O (zw (i:=0) (off:=i) (vs:=[(vK .u32 (((os.getD i 0)+((AP b).getD i 0)+c)%4294967296))]) (cs':=Ao (os.set i (((os.getD i 0)+((AP b).getD i 0)+c)%4294967296))) (L':=[AR b6 92 (Ao (os.set i (((os.getD i 0)+((AP b).getD i 0)+c)%4294967296))),AR b5 92 (Ao (A8 b)),AR b4 92 (Ao (A8 a)),AR b3 71 (Aa 0),AR b2 71 (Aa b),AR b1 71 (Aa a)]) (AJ O) O O O O O sizeOf92 O (C7 (BW _) Z) (CZ Z) O (asg' O (oNl' (zB (sL [4,8,9,52,53,10,11,12] O) (zJ (zA (zH ?_)))))))))))
     exact AG (AW (c:=((i+1:Nat):Int)) O O (AU (a:=i) (b:=1) Z)) O (AM O (oNl' (zB (sL [4,8,9,52,53,10,11,12] O) (yB (i+1) (os.set i ((os.getD i 0+(AP b).getD i 0+c)%4294967296)) ((os.getD i 0+(AP b).getD i 0+c)/4294967296) (⟨Z,by rw [List.length_set];exact hl,W32.set hw32 Z i,Z,Ow hl hc3 hv⟩) Z (sF O) sr))))
   ·replace hc3:=xQ hc3
    refine zU (zP (zx (zS (q2 (AM O (Ct call206 (λw hw=>J0 _ ((nw a)+1) ((nw a)+1) os hw32 (by first|omega|(rw [rowN_length];omega)|simp|(simp;omega)) (by first|omega|simp|(simp;omega)) (by first|omega|simp|(simp;omega)) w (hw.get (i:=0) O)) O (zC (k:=79) (u:=(aG (Aa (a+b)))) O (by rw [List.take_of_length_le (show os.length<=nw a+1 by omega),Po (X:=a) (Y:=b) (c:=c) (i:=i) hl hw32 Z (WT Z) (by rw [hv,Dj Z])]) (I2 O sizeOf71 O (oNl' (zB (sL [4,8,9,52,53,10] O) (zA ?_)))))))))))
    exact zF (ret_one O (Ai (i:=3) (cs:=Aa (a+b)) O O isAgg71 sizeOf71 O) (λw hw=>⟨rfl,hw.out⟩))
end
section
set_option maxRecDepth 100000
theorem Mb  :Instr.fill ([(0,1),(1,1)].toArray[·]?) (Aa 0).toArray []=some (Aa 0).toArray:=by kernel_rfl
theorem Qf (a b:Nat) (ha:nw a<=1099511627776) (hb:nw b<=1099511627776) (w:World)  :Calls prog 204 #[(aG (Aa a)),(aG (Aa b))] w (Ak w (Value.tuple #[(aG (Aa (a-b))),(qa (decide (b<=a)))])):=by
 have hla:=Ci a
 have hlb:=Ci b
 have hpa:=Xp a
 refine Ab (args:=[(aG (Aa a)),(aG (Aa b))]) func204 O O (Av O) (zN (sL [0,1] O) (q4 (Bb (cs:=Aa a) O λb1=>Bb (cs:=Aa b) O λb2=>al Gf O λb3=>asg' O (q6 (sL [2,3,4,5] O) (q4 (BD 2 CD O (BD 1 CD O (ck' call242 (WY a b Z Z) O ?_))))))))
 refine AG (Ae (c:=(decide ((DZ a b)<(0:Int)))) O O O) O (oNl' (zB (sL [2,3,4,5,14] O) (zA ?_)))
 refine zM O (λhc0=>?_) (λhc0=>?_)
 ·replace hc0:=xR hc0
  rw [Fs] at hc0
  exact q4 (AG (v:=(aG (Aa 0))) (AT (zs:=Aa 0) (vs:=Aa 0) (pv:=[]) (places:=[(0,1),(1,1)]) zeroValue71 underlying71 (λw=>by simp [sizeOf9,sizeOf69]) O (Mb )) O (zC (k:=15) (u:=(aG (Aa (a-b)))) O (by rw [show a-b=0 by omega]) (Ax O sizeOf71 O (asg' O (oNl' (zB (sL [2,3,4,5] O) (zA (zF (zO (Dq O (Ai (i:=0) (cs:=Aa (a-b)) O O isAgg71 sizeOf71 O) (rd_tmp (v:=(qa false)) O) (λw hw=>⟨by rw [xx (show ¬b<=a by omega)],hw.out⟩)))))))))))
 ·replace hc0:=xQ hc0
  rw [Fs] at hc0
  have hnb:nw b<=nw a:=DK Z
  refine zG (q1 (q4 (AG (v:=(pP b1 1)) (AA O underlying71 O sizeOf9 O) O (Az 2 (Value.string (Bo a)) UV O (AG (Bq (c:=(decide (a<18446744073709551616))) O O C1) O (oNl' (zB (sL [2,3,4,5,18] O) (zA ?_))))))))
  refine zM O (λhc1=>?_) (λhc1=>?_)
  ·replace hc1:=xR hc1
   refine q4 (AG (v:=(pP b1 0)) (AA O underlying71 O sizeOf69 O) O (Az 2 (vK .u64 (CF a)) HH O (zC (k:=20) (u:=(vK .u64 a)) O (by rw [Bl hc1]) (AG (v:=(pP b2 0)) (AA O underlying71 O sizeOf69 O) O (Az 1 (vK .u64 (CF b)) HH O (zC (k:=22) (u:=(vK .u64 b)) O (by rw [Bl Z]) (AG (BY (c:=((a-b:Nat):Int)) O O (Io (a:=a) (b:=b) Z Z)) O (AG (v:=(aG ([(vK .u64 (a-b)),(Value.string (Bo 0))]))) (AT (zs:=Aa 0) (vs:=[(vK .u64 (a-b)),(Value.string (Bo 0))]) (pv:=[(0,(vK .u64 (a-b)))]) (places:=[(0,1),(1,1)]) zeroValue71 underlying71 (λw=>by simp [sizeOf9,sizeOf69]) O O) O (zC (k:=24) (u:=(aG (Aa (a-b)))) O (by rw [EI Z];rfl) (Ax O sizeOf71 O (asg' O ?_)))))))))))
   exact oNl' (zB (sL [2,3,4,5] O) (zA (zF (zO (Dq O (Ai (i:=0) (cs:=Aa (a-b)) O O isAgg71 sizeOf71 O) (rd_tmp (v:=(qa true)) O) (λw hw=>⟨by rw [xy (show b<=a by omega)],hw.out⟩))))))
  ·replace hc1:=xQ hc1
   have hpad:A8 a=AP a:=if_neg hc1
   refine zG (q1 (CQ [(0,true),(2,true),(1,false),(3,false),(4,true),(5,true)] sr (EC 2 CD O (EC 1 CD O (zK O (z7 (V:=λb4=>(qw (jk b4) (nw a) ((A8 a).length))) (T:=92) (cs:=Ao (A8 a)) (AJ O) (Aw (args:=[(aG (Aa a))]) O O call187) (λw hw=>Dc a Z w) O (Av O) λb4=>zD (sl sr) (zK O (z7 (V:=λb5=>(qw (jk b5) (nw b) ((A8 b).length))) (T:=92) (cs:=Ao (A8 b)) (AJ O) (Aw (args:=[(aG (Aa b))]) O O call187) (λw hw=>Dc b Z w) O (Av O) λb5=>zD (sl (sl sr)) (pS' O ?_)))))))))
   refine pS' O (zT (zB (sL [2,3,4,5,6,7] O) (q2 (asg' O (oNl' (q1 (q4 (AM O (AG (v:=(vN (nw a))) (AC O underlying255) O (AM O (oNl' ?_)))))))))))
   refine zB (sL [2,3,4,5,6,7,8,30,31] O) (zA (zI ?_))
   refine yS (tg λ(i:Nat) (os:List Nat) (c:Nat)=>i<=nw a/\os.length=nw a/\W32 os/\c<=1/\val os+val ((AP b).take i)=a+c*4294967296^i) (tg λ(i:Nat) (os:List Nat) (c:Nat)=>[(4,(pP b3 0)),(5,(qa false)),(6,(qw (jk b4) (nw a) ((A8 a).length))),(7,(qw (jk b5) (nw b) ((A8 b).length))),(30,(vN (nw a))),(31,(vN i)),(8,(vK .u32 c))]) (tg λ(i:Nat) (os:List Nat) (c:Nat)=>[AR b5 92 (Ao (A8 b)),AR b4 92 (Ao os),AR b3 71 (Aa 0),AR b2 71 (Aa b),AR b1 71 (Aa a)]) (tg λ(i:Nat) (os:List Nat) (c:Nat)=>nw a-i) 0 (A8 a) 0 (⟨xH _,by rw [hpad];rfl,Cm a,Z,by rw [SE];simp [val]⟩) (sF O) sr (λi os c hJ=>?_)
   obtain ⟨hi,hl,hw32,hcc,hv⟩:=hJ
   refine q4 (AG (Ae (c:=(decide (i<(nw a)))) O O (CM (a:=i) (b:=nw a))) O (oNl' (q1 ?_)))
   refine zM O (λhc2=>?_) (λhc2=>?_)
   ·replace hc2:=xR hc2
    refine zG (q1 (zI (q4 (AM O (asg' O (q3 (sL [4,5,6,7,30,31,8,9] O) (asg' O (oNl' (q1 (q4 (AM O ?_)))))))))))
    refine AM O (AG (v:=(vN (nw b))) (AC O underlying255) O (AG (Ae (c:=(decide (i<(nw b)))) O O (CM (a:=i) (b:=nw b))) O (oNl' (zB (sL [4,5,6,7,30,31,8,9,10,37] O) (zA ?_)))))
    refine yk (tg True) (tg [(4,(pP b3 0)),(5,(qa false)),(6,(qw (jk b4) (nw a) ((A8 a).length))),(7,(qw (jk b5) (nw b) ((A8 b).length))),(30,(vN (nw a))),(31,(vN i)),(8,(vK .u32 c)),(9,(vN i)),(10,(vK .u32 ((AP b).getD i 0)))]) (tg [AR b5 92 (Ao (A8 b)),AR b4 92 (Ao os),AR b3 71 (Aa 0),AR b2 71 (Aa b),AR b1 71 (Aa a)]) ?_ ?_
    ·refine zM O (λhc3=>?_) (λhc3=>?_)
     ·replace hc3:=xR hc3
      refine zH (AM O (AM O (AG (v:=(pP b5 i)) (AO (j:=i) O O underlying255 sizeOf92 O Z jX) O ?_)))
      have hx1:(A8 b).getD i 0<4294967296:=W32.getD (Cm b) i
      exact AG (AE (i:=0) (v:=(vK .u32 ((A8 b).getD i 0))) O O isAgg92 (BH (xs:=A8 b) (j:=i) Z)) O (zC (k:=41) (u:=(vK .u32 ((AP b).getD i 0))) O (by rw [D1 hc3]) (asg' O (oNl' (zB (sL [4,5,6,7,30,31,8,9,10] O) (yG  (trivial) (sF O) sr)))))
     ·replace hc3:=xQ hc3
      exact zG (yb (k:=10) (u:=Value.int .u32 (((AP b).getD i 0:Nat):Int)) O (by rw [FC hc3];rfl) (yG  (trivial) (sF O) sr))
    ·intro hJ
     refine zA (zH (AM O (AM O (AM O (AM O (AG (v:=(pP b4 i)) (AO (j:=i) O O underlying255 sizeOf92 O Z jX) O ?_))))))
     have hx2:os.getD i 0<4294967296:=W32.getD hw32 i
     refine AG (AE (i:=1) (v:=(vK .u32 (os.getD i 0))) O O isAgg92 (BH (xs:=os) (j:=i) Z)) O (AM O (AM O ?_))
     have hyb:=(By b).getD i
     refine ck' call244 (Lu (os.getD i 0) ((AP b).getD i 0) c _ Z Z Z O) O (AM O (AG (AZ (v:=(vK .u32 (((os.getD i 0)+(4294967296-((AP b).getD i 0))+(4294967296-c))%4294967296))) O O) O (AG (AZ (v:=(vK .u32 (Jl (os.getD i 0) (((AP b).getD i 0)+c)))) O O) O (AG (v:=(pP b4 i)) (AO (j:=i) O O underlying255 sizeOf92 O Z jX) O (zw (i:=1) (off:=i) (vs:=[(vK .u32 (((os.getD i 0)+(4294967296-((AP b).getD i 0))+(4294967296-c))%4294967296))]) (cs':=Ao (os.set i (((os.getD i 0)+(4294967296-((AP b).getD i 0))+(4294967296-c))%4294967296))) (L':=[AR b5 92 (Ao (A8 b)),AR b4 92 (Ao (os.set i (((os.getD i 0)+(4294967296-((AP b).getD i 0))+(4294967296-c))%4294967296))),AR b3 71 (Aa 0),AR b2 71 (Aa b),AR b1 71 (Aa a)]) (AJ O) O O O O O sizeOf92 O (C7 (BW _) Z) (CZ Z) O (asg' O (oNl' (zB (sL [4,5,6,7,30,31,8,9,10] O) (zJ (zA (zH ?_)))))))))))
     exact AG (AW (c:=((i+1:Nat):Int)) O O (AU (a:=i) (b:=1) Z)) O (AM O (oNl' (zB (sL [4,5,6,7,30,31,8,9,10] O) (yB (i+1) (os.set i ((os.getD i 0+(4294967296-(AP b).getD i 0)+(4294967296-c))%4294967296)) (Jl (os.getD i 0) ((AP b).getD i 0+c)) (⟨Z,by rw [List.length_set];exact hl,W32.set hw32 Z i,Rk _ _,WG hl hc2 hw32 (By b) hcc hv⟩) Z (sF O) sr))))
   ·replace hc2:=xQ hc2
    refine zU (zP (zx (zS (q2 (AM O (Ct call206 (λw hw=>J0 _ (nw a) ((A8 a).length) os hw32 (by first|omega|(rw [rowN_length];omega)|simp|(simp;omega)) (by first|omega|simp|(simp;omega)) (by first|omega|simp|(simp;omega)) w (hw.get (i:=1) O)) O (zC (k:=57) (u:=(aG (Aa (a-b)))) O (by rw [List.take_of_length_le (show os.length<=nw a by omega),Wq (X:=a) (Y:=b) (n:=nw a) (c:=c) (i:=i) hl hw32 Z Z (by rw [<-hv,Dj Z]) (Bz a)]) (H6 O sizeOf71 O (asg' O (oNl' (zB (sL [4,5,6,7,30,31,8] O) ?_)))))))))))
    exact zA (zF (Dq O (Ai (i:=2) (cs:=Aa (a-b)) O O isAgg71 sizeOf71 O) (rd_tmp (v:=(qa true)) O) (λw hw=>⟨by rw [xy (show b<=a by omega)],hw.out⟩)))
theorem Ry (a b:Nat) (ha:nw a<=1099511627776) (hb:nw b<=1099511627776) (w:World)  :Calls prog 153 #[(aG (Aa a)),(aG (Aa b))] w (Ak w (aG (Aa (a*b)))):=by
 have hla:=Ci a
 have hlb:=Ci b
 refine Ab (args:=[(aG (Aa a)),(aG (Aa b))]) func153 O O (Av O) (zN (sL [0,1] O) (q4 (Bb (cs:=Aa a) O λb1=>Bb (cs:=Aa b) O λb2=>al Gf O λb3=>q6 (sL [2,3,4] O) (q4 (AG (v:=(pP b1 1)) (AA O underlying71 O sizeOf9 O) O (Az 2 (Value.string (Bo a)) UV O (AG (Bq (c:=(decide (a<18446744073709551616))) O O C1) O (AM O ?_))))))))
 refine zX (FM:=[(2,(pP b1 0)),(3,(pP b2 0)),(4,(pP b3 0)),(15,(pP b1 1)),(16,(Value.string (Bo a))),(17,(qa (decide (a<18446744073709551616)))),(18,(qa (decide (a<18446744073709551616)))),(22,(qa ((decide (a<18446744073709551616))&&(decide (b<18446744073709551616)))))]) (LM:=[AR b3 71 (Aa 0),AR b2 71 (Aa b),AR b1 71 (Aa a)]) 4 ?_ ?_
 ·rcases xO (decide (a<18446744073709551616)) with hg1|hg1
  ·refine zC (k:=18) (u:=qa true) O (by rw [hg1]) ?_
   have hg1':=xR hg1
   exact Au (v:=(pP b2 1)) O (AA O underlying71 O sizeOf9 O) (Au (v:=(Value.string (Bo b))) O (AE (i:=1) (v:=(Value.string (Bo b))) O O UV.a O) (Au (v:=(qa (decide (b<18446744073709551616)))) O (Bq (c:=(decide (b<18446744073709551616))) O O C1) (AG (v:=(qa (decide (b<18446744073709551616)))) (AN O O) O (oNl' (zR Bg (xP _))))))
  ·refine zC (k:=18) (u:=qa false) O (by rw [hg1]) ?_
   have hg1':=xQ hg1
   exact Ar O (Ar O (Ar O (AG (v:=(qa false)) (AI O O) O (oNl' (zR Bg (xP _))))))
 refine oNl' (zB (sL [2,3,4,22] O) (zA ?_))
 refine zM O (λhc0=>?_) (λhc0=>?_)
 ·simp only [jK] at hc0
  refine q4 (AG (v:=(pP b1 0)) (AA O underlying71 O sizeOf69 O) O (Az 2 (vK .u64 (CF a)) HH O (zC (k:=25) (u:=(vK .u64 a)) O (by rw [Bl hc0.1]) (AG (v:=(pP b2 0)) (AA O underlying71 O sizeOf69 O) O (Az 1 (vK .u64 (CF b)) HH O ?_)))))
  have hhi:a*b/18446744073709551616<18446744073709551616:=Nat.div_lt_of_lt_mul (Nat.mul_lt_mul'' hc0.1 hc0.2)
  refine zC (k:=27) (u:=(vK .u64 b)) O (by rw [Bl hc0.2]) (ck' call205 (WR a b Z Z) O (AM O (AG (AZ (v:=(vK .u64 (a*b/18446744073709551616))) O O) O (AG (AZ (v:=(vK .u64 (a*b%18446744073709551616))) O O) O (asg' O (asg' O (q3 (sL [2,3,4,5,6] O) (AM O (AG (A9 (c:=(((a*b%18446744073709551616)%4294967296:Nat):Int)) O underlying69 underlying92 E3) O (AM O (AG (DI (s:=32) (c:=(((a*b%18446744073709551616)/4294967296:Nat):Int)) O O O jY (GY (a:=a*b%18446744073709551616) (s:=32))) O ?_)))))))))))
  refine AG (A9 (c:=(((a*b%18446744073709551616)/4294967296:Nat):Int)) O underlying69 underlying92 (C_ Z)) O (AM O (AG (A9 (c:=(((a*b/18446744073709551616)%4294967296:Nat):Int)) O underlying69 underlying92 E3) O (AM O (AG (DI (s:=32) (c:=(((a*b/18446744073709551616)/4294967296:Nat):Int)) O O O jY (GY (a:=a*b/18446744073709551616) (s:=32))) O (AG (A9 (c:=(((a*b/18446744073709551616)/4294967296:Nat):Int)) O underlying69 underlying92 (C_ Z)) O (zZ (V:=λb4=>(qw (jk b4) 4 4)) (T:=92) (cs:=Ao ([(a*b%18446744073709551616)%4294967296,(a*b%18446744073709551616)/4294967296,(a*b/18446744073709551616)%4294967296,(a*b/18446744073709551616)/4294967296])) (AJ O) (Af (cs:=Ao ([(a*b%18446744073709551616)%4294967296,(a*b%18446744073709551616)/4294967296,(a*b/18446744073709551616)%4294967296,(a*b/18446744073709551616)/4294967296])) (pv:=[(0,(vK .u32 ((a*b%18446744073709551616)%4294967296))),(1,(vK .u32 ((a*b%18446744073709551616)/4294967296))),(2,(vK .u32 ((a*b/18446744073709551616)%4294967296))),(3,(vK .u32 ((a*b/18446744073709551616)/4294967296)))]) underlying255 sizeOf92 zeroValue92 jY jY O jV) O (Av O) λb4=>Ct call206 (λw hw=>J0 _ 4 4 ([(a*b%18446744073709551616)%4294967296,(a*b%18446744073709551616)/4294967296,(a*b/18446744073709551616)%4294967296,(a*b/18446744073709551616)/4294967296]) (W32.cons Z (W32.cons Z (W32.cons Z (W32.cons Z (W32.nil))))) (by first|omega|(rw [rowN_length];omega)|simp|(simp;omega)) (by first|omega|simp|(simp;omega)) (by first|omega|simp|(simp;omega)) w (hw.get (i:=0) O)) O (zC (k:=42) (u:=(aG (Aa (a*b)))) O (by rw [show ∀x y z t:Nat,[x,y,z,t].take 4=[x,y,z,t] from λ_ _ _ _=>rfl,a0 Z hhi,show a*b%18446744073709551616+a*b/18446744073709551616*18446744073709551616=a*b by omega]) (EK O sizeOf71 O (oNl' (zB (sL [2,3,4] O) ?_))))))))))
  exact zA (zF (zO (ret_one O (Ai (i:=1) (cs:=Aa (a*b)) O O isAgg71 sizeOf71 O) (λw hw=>⟨rfl,hw.out⟩))))
 ·simp only [jK] at hc0
  refine zG (q1 (CQ [(0,true),(2,true),(1,false),(3,false),(4,true),(5,true)] sr (EC 2 CD O (EC 1 CD O (zK O (z7 (V:=λb4=>(qw (jk b4) (nw a) ((A8 a).length))) (T:=92) (cs:=Ao (A8 a)) (AJ O) (Aw (args:=[(aG (Aa a))]) O O call187) (λw hw=>Dc a Z w) O (Av O) λb4=>zD (sl sr) (zK O (z7 (V:=λb5=>(qw (jk b5) (nw b) ((A8 b).length))) (T:=92) (cs:=Ao (A8 b)) (AJ O) (Aw (args:=[(aG (Aa b))]) O O call187) (λw hw=>Dc b Z w) O (Av O) λb5=>zD (sl (sl sr)) (pS' O ?_)))))))))
  refine pS' O (zT (zB (sL [2,3,4,7,8] O) (q2 (AM O (AG (v:=(vN (nw a))) (AC O underlying255) O (AM O (AG (v:=(vN (nw b))) (AC O underlying255) O (AG (AW (c:=(((nw a)+(nw b):Nat):Int)) O O (AU (a:=nw a) (b:=nw b) Z)) O (zZ (V:=λb6=>(qw (jk b6) ((nw a)+(nw b)) ((nw a)+(nw b)))) (T:=92) (cs:=Ao (List.replicate ((nw a)+(nw b)) 0)) (AJ O) (Dg (m:=(nw a)+(nw b)) (c:=(nw a)+(nw b)) O O Z Z) O (Av O) λb6=>asg' O (q6 (sL [2,3,4,7,8,9] O) ?_))))))))))
  refine q4 (AM O (AG (v:=(vN (nw a))) (AC O underlying255) O (AM O (oNl' (zA (zI ?_))))))
  refine yA (tg λ(i:Nat) (os:List Nat)=>i<=nw a/\os.length=nw a+nw b/\W32 os/\val os=val ((AP a).take i)*b) (tg λ(i:Nat) (os:List Nat)=>[(4,(pP b3 0)),(8,(qw (jk b5) (nw b) ((A8 b).length))),(9,(qw (jk b6) ((nw a)+(nw b)) ((nw a)+(nw b)))),(53,(qw (jk b4) (nw a) ((A8 a).length))),(54,(vN (nw a))),(55,(vN i))]) (tg λ(i:Nat) (os:List Nat)=>[AR b6 92 (Ao os),AR b5 92 (Ao (A8 b)),AR b4 92 (Ao (A8 a)),AR b3 71 (Aa 0),AR b2 71 (Aa b),AR b1 71 (Aa a)]) (tg λ(i:Nat) (os:List Nat)=>nw a-i) 0 (List.replicate (nw a+nw b) 0) (⟨xH _,by simp,W32.zeros _,by rw [Ep];simp [val]⟩) (sF O) sr (λi os hJ=>?_)
  obtain ⟨hi,hl,hw32,hv⟩:=hJ
  refine q4 (AG (Ae (c:=(decide (i<(nw a)))) O O (CM (a:=i) (b:=nw a))) O (oNl' (q1 ?_)))
  refine zM O (λhc1=>?_) (λhc1=>?_)
  ·replace hc1:=xR hc1
   refine zG (q1 (zI (q4 (AM O (AG (v:=(pP b4 i)) (AO (j:=i) O O underlying255 sizeOf92 O Z jX) O ?_)))))
   have hx1:(A8 a).getD i 0<4294967296:=W32.getD (Cm a) i
   refine AG (AE (i:=2) (v:=(vK .u32 ((A8 a).getD i 0))) O O isAgg92 (BH (xs:=A8 a) (j:=i) Z)) O (zC (k:=59) (u:=(vK .u32 ((AP a).getD i 0))) O (by rw [D1 hc1]) (asg' O (asg' O (q3 (sL [4,8,9,53,54,55,10,11] O) (asg' O (oNl' (q1 (q4 (AM O (AG (v:=(vN (nw b))) (AC O underlying255) O (AM O ?_)))))))))))
   refine oNl' (zA (zI ?_))
   refine yS (tg λ(k:Nat) (xs:List Nat) (c:Nat)=>k<=nw b/\xs.length=nw a+nw b/\W32 xs/\c<4294967296/\(∀j,i+nw b<=j->xs.getD j 0=0)/\val xs+c*4294967296^(i+k)=val ((AP a).take i)*b+(AP a).getD i 0*val ((AP b).take k)*4294967296^i) (tg λ(k:Nat) (xs:List Nat) (c:Nat)=>[(4,(pP b3 0)),(8,(qw (jk b5) (nw b) ((A8 b).length))),(9,(qw (jk b6) ((nw a)+(nw b)) ((nw a)+(nw b)))),(53,(qw (jk b4) (nw a) ((A8 a).length))),(54,(vN (nw a))),(55,(vN i)),(10,(vN i)),(11,(vK .u32 ((AP a).getD i 0))),(60,(qw (jk b5) (nw b) ((A8 b).length))),(61,(vN (nw b))),(62,(vN k)),(12,(vK .u64 c))]) (tg λ(k:Nat) (xs:List Nat) (c:Nat)=>[AR b6 92 (Ao xs),AR b5 92 (Ao (A8 b)),AR b4 92 (Ao (A8 a)),AR b3 71 (Aa 0),AR b2 71 (Aa b),AR b1 71 (Aa a)]) (tg λ(k:Nat) (xs:List Nat) (c:Nat)=>nw b-k) 0 os 0 (⟨xH _,hl,hw32,Z,Ru hv,by rw [hv];simp [val]⟩) (sF O) sr (λk xs c hJ=>?_)
   obtain ⟨hk,hl2,hw2,hcc,h02,hv2⟩:=hJ
   refine q4 (AG (Ae (c:=(decide (k<(nw b)))) O O (CM (a:=k) (b:=nw b))) O (oNl' (q1 ?_)))
   refine zM O (λhc2=>?_) (λhc2=>?_)
   ·replace hc2:=xR hc2
    refine zG (q1 (zI (q4 (AM O (AG (v:=(pP b5 k)) (AO (j:=k) O O underlying255 sizeOf92 O Z jX) O ?_)))))
    have hx2:(A8 b).getD k 0<4294967296:=W32.getD (Cm b) k
    refine AG (AE (i:=1) (v:=(vK .u32 ((A8 b).getD k 0))) O O isAgg92 (BH (xs:=A8 b) (j:=k) Z)) O (zC (k:=66) (u:=(vK .u32 ((AP b).getD k 0))) O (by rw [D1 hc2]) (asg' O (asg' O (q3 (sL [4,8,9,53,54,55,10,11,60,61,62,12,13,14] O) (AM O (AM O ?_))))))
    have hwa:=(By a).getD i
    have hwb:=(By b).getD k
    have hml:=Lm hwa hwb
    refine AG (A9 (c:=(((AP a).getD i 0:Nat):Int)) O underlying92 underlying69 (BV Z)) O (AM O (AG (A9 (c:=(((AP b).getD k 0:Nat):Int)) O underlying92 underlying69 (BV Z)) O (AG (EV (c:=((((AP a).getD i 0)*((AP b).getD k 0):Nat):Int)) O O (Fa (a:=(AP a).getD i 0) (b:=(AP b).getD k 0) Z)) O (AM O (AM O (AM O (AG (AW (c:=((i+k:Nat):Int)) O O (AU (a:=i) (b:=k) Z)) O (AG (v:=(pP b6 (i+k))) (AO (j:=i+k) O O underlying255 sizeOf92 O Z jX) O ?_))))))))
    have hx3:xs.getD (i+k) 0<4294967296:=W32.getD hw2 (i+k)
    refine AG (AE (i:=0) (v:=(vK .u32 (xs.getD (i+k) 0))) O O isAgg92 (BH (xs:=xs) (j:=(i+k)) Z)) O (AG (A9 (c:=((xs.getD (i+k) 0:Nat):Int)) O underlying92 underlying69 (BV Z)) O (AG (AW (c:=(((((AP a).getD i 0)*((AP b).getD k 0))+(xs.getD (i+k) 0):Nat):Int)) O O (Dz (a:=((AP a).getD i 0)*((AP b).getD k 0)) (b:=xs.getD (i+k) 0) Z)) O (AG (AW (c:=((c+((((AP a).getD i 0)*((AP b).getD k 0))+(xs.getD (i+k) 0)):Nat):Int)) O O (Dz (a:=c) (b:=(((AP a).getD i 0)*((AP b).getD k 0))+(xs.getD (i+k) 0)) Z)) O (asg' O (q3 (sL [4,8,9,53,54,55,10,11,60,61,62,12,13] O) (AM O (AM O (AM O (AG (AW (c:=((i+k:Nat):Int)) O O (AU (a:=i) (b:=k) Z)) O (AM O (AG (A9 (c:=(((c+((((AP a).getD i 0)*((AP b).getD k 0))+(xs.getD (i+k) 0)))%4294967296:Nat):Int)) O underlying69 underlying92 E3) O ?_)))))))))))
    refine AG (v:=(pP b6 (i+k))) (AO (j:=i+k) O O underlying255 sizeOf92 O Z jX) O (zw (i:=0) (off:=(i+k)) (vs:=[(vK .u32 ((c+((((AP a).getD i 0)*((AP b).getD k 0))+(xs.getD (i+k) 0)))%4294967296))]) (cs':=Ao (xs.set (i+k) ((c+((((AP a).getD i 0)*((AP b).getD k 0))+(xs.getD (i+k) 0)))%4294967296))) (L':=[AR b6 92 (Ao (xs.set (i+k) ((c+((((AP a).getD i 0)*((AP b).getD k 0))+(xs.getD (i+k) 0)))%4294967296))),AR b5 92 (Ao (A8 b)),AR b4 92 (Ao (A8 a)),AR b3 71 (Aa 0),AR b2 71 (Aa b),AR b1 71 (Aa a)]) (AJ O) O O O O O sizeOf92 O (C7 (BW _) Z) (CZ Z) O (oNl' (zB (sL [4,8,9,53,54,55,10,11,60,61,62,12,13] O) (zA (zH (AM O (AG (DI (s:=32) (c:=(((c+((((AP a).getD i 0)*((AP b).getD k 0))+(xs.getD (i+k) 0)))/4294967296:Nat):Int)) O O O jY (GY (a:=c+((((AP a).getD i 0)*((AP b).getD k 0))+(xs.getD (i+k) 0))) (s:=32))) O (asg' O (oNl' (zB (sL [4,8,9,53,54,55,10,11,60,61,62,12,13] O) (zJ ?_)))))))))))
    exact zA (zH (AG (AW (c:=((k+1:Nat):Int)) O O (AU (a:=k) (b:=1) Z)) O (AM O (oNl' (zB (sL [4,8,9,53,54,55,10,11,60,61,62,12,13] O) (yB (k+1) (xs.set (i+k) ((c+((AP a).getD i 0*(AP b).getD k 0+xs.getD (i+k) 0))%4294967296)) ((c+((AP a).getD i 0*(AP b).getD k 0+xs.getD (i+k) 0))/4294967296) (⟨Z,by rw [List.length_set];exact hl2,W32.set hw2 Z _,Z,F9 h02 Z,V9 hl2 Z hv2⟩) Z (sF O) sr))))))
   ·replace hc2:=xQ hc2
    have hkn:k=nw b:=by omega
    have hbb:val ((AP b).take k)=b:=Dj Z
    rw [hbb] at hv2
    refine zU (zP (zx (zS (zA (zH (AM O (AM O (AM O (AG (v:=(vN (nw b))) (AC O underlying255) O (AG (AW (c:=((i+(nw b):Nat):Int)) O O (AU (a:=i) (b:=nw b) Z)) O (AM O ?_)))))))))))
    exact AG (A9 (c:=((c:Nat):Int)) O underlying69 underlying92 (C_ Z)) O (AG (v:=(pP b6 (i+(nw b)))) (AO (j:=i+(nw b)) O O underlying255 sizeOf92 O Z jX) O (zw (i:=0) (off:=(i+(nw b))) (vs:=[(vK .u32 c)]) (cs':=Ao (xs.set (i+(nw b)) c)) (L':=[AR b6 92 (Ao (xs.set (i+(nw b)) c)),AR b5 92 (Ao (A8 b)),AR b4 92 (Ao (A8 a)),AR b3 71 (Aa 0),AR b2 71 (Aa b),AR b1 71 (Aa a)]) (AJ O) O O O O O sizeOf92 O (C7 (BW _) Z) (CZ Z) O (oNl' (zB (sL [4,8,9,53,54,55,10,11,60,61,62,12] O) (zJ (zA (zH (AG (AW (c:=((i+1:Nat):Int)) O O (AU (a:=i) (b:=1) Z)) O (AM O (oNl' (zB (sL [4,8,9,53,54,55,10,11,60,61,62,12] O) (zn (i+1) (xs.set (i+nw b) c) (⟨Z,by rw [List.length_set];exact hl2,W32.set hw2 hcc _,by rw [Is hl2 Z (h02 _ (Nat.le_refl _)),<-Yj,<-hv2,<-hkn]⟩) Z (sF O) sr))))))))))))
  ·replace hc1:=xQ hc1
   refine zU (zP (zi (zS (q2 (AM O (Ct call206 (λw hw=>J0 _ ((nw a)+(nw b)) ((nw a)+(nw b)) os hw32 (by first|omega|(rw [rowN_length];omega)|simp|(simp;omega)) (by first|omega|simp|(simp;omega)) (by first|omega|simp|(simp;omega)) w (hw.get (i:=0) O)) O (zC (k:=102) (u:=(aG (Aa (a*b)))) O (by rw [List.take_of_length_le (show os.length<=nw a+nw b by omega),hv,Dj Z]) (I2 O sizeOf71 O (oNl' (zB (sL [4,8,9,53,54,55] O) (zA ?_)))))))))))
   exact zF (ret_one O (Ai (i:=3) (cs:=Aa (a*b)) O O isAgg71 sizeOf71 O) (λw hw=>⟨rfl,hw.out⟩))
end
end Go.Proofs.YtpolhpjiahbidaaGreatDoor
