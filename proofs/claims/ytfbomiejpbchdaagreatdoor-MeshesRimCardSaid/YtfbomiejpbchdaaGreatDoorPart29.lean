import Derived.Test.YtfbomiejpbchdaaGreatDoorPart21
import Derived.Test.YtfbomiejpbchdaaGreatDoorPart22
import Derived.Test.YtfbomiejpbchdaaGreatDoorPart28
namespace Go.Proofs.YtfbomiejpbchdaaGreatDoor
open Go Go.RowKit Go.Proofs.Tryz
set_option linter.unusedVariables false
set_option linter.unusedSimpArgs false
section
set_option maxRecDepth 100000
theorem KW (p q:Pt) (hp:B8 p<=1000) (hq:B8 q<=1000) (w:World)  :Calls prog 121 #[(aG (Aj p)),(aG (Aj q))] w (Am w (Value.bool (decide (Rc p q)))):=by
 have y1:=GC p
 have y2:=GC q
 have y3:=GB p
 have y4:=GB q
 refine Ac (args:=[(aG (Aj p)),(aG (Aj q))]) func121 O O (Ab O) (AF.subF (sL [0,1] O) (q4 (Bq (cs:=Aj p) O λb1=>Bq (cs:=Aj q) O λb2=>AK O ?_)))
 refine q6 (sL [2,3,4] O) (q4 (AG (v:=(pP b1 0)) (AA O underlying63 O sizeOf61 O) O (DJ 1 (AI p.x) Bh O (AG (v:=(pP b2 0)) (AA O underlying63 O sizeOf61 O) O (DJ 0 (AI q.x) Bh O ?_)))))
 refine BV call155 (N0 p.x q.x Z) O (AK O (q3 (sL [2,3,4,5] O) (AO O (AG (CL (c:=(decide ((Fl p.x q.x)≠(0:Int)))) O O O) O (AE.nil ?_)))))
 refine AD.subF (sL [2,3,4,5,12] O) (AD.then_ ?_)
 refine AF.cond O (λhc0=>?_) (λhc0=>?_)
 ·replace hc0:=of_decide_eq_true hc0
  refine q4 (AO O (AG (Af (c:=(decide ((Fl p.x q.x)<(0:Int)))) O O O) O (AK O (AE.nil (AD.subF (sL [2,3,4,5] O) ?_)))))
  exact AD.then_ (AF.ret (AD.then_ret (AP O (Ad (v:=(Value.bool (decide ((Fl p.x q.x)<(0:Int))))) O) (λw hw=>⟨by rw [Uj hc0],hw.out⟩))))
 ·replace hc0:=of_decide_eq_false hc0
  refine AF.skip (q2 (AG (v:=(pP b1 5)) (AA O underlying63 O sizeOf61 O) O (DJ 1 (AI p.y) Bh O (AG (v:=(pP b2 5)) (AA O underlying63 O sizeOf61 O) O (DJ 0 (AI q.y) Bh O ?_)))))
  refine BV call155 (N0 p.y q.y Z) O (AG (Af (c:=(decide ((Fl p.y q.y)<(0:Int)))) O O O) O (AK O (AE.nil (AD.subF (sL [2,3,4,5] O) (AD.then_ ?_)))))
  exact AF.ret (AP O (Ad (v:=(Value.bool (decide ((Fl p.y q.y)<(0:Int))))) O) (λw hw=>⟨by rw [Ua (Decidable.not_not.1 hc0)],hw.out⟩))
end
abbrev T2:=P2×P2×P2
def Sa (u v c:Nat):List T2 :=
  let x:=2*u;let y:=2*v
  if c=0 then [((x,y),(x+2,y),(x+2,y+2)),((x,y),(x+2,y+2),(x,y+2))]
  else if c=1 then [((x,y),(x+2,y),(x,y+2)),((x+2,y),(x+2,y+2),(x,y+2))]
  else if c=2 then [((x,y),(x+2,y),(x+1,y+1)),((x+2,y),(x+2,y+2),(x+1,y+1)),((x+2,y+2),(x,y+2),(x+1,y+1)),((x,y+2),(x,y),(x+1,y+1))] else []
def Sc (way i:Nat):Nat:=if way<3\/(way=7/\i=0) then 0 else if way<5 then 1 else if way<7 then 2 else 3
theorem Oc (nx way i:Nat):CX nx way i=Sa (i%nx) (i/nx) (Sc way i):=by
  unfold CX Sa Sc
  simp only
  split
  · rfl
  · split
    · rfl
    · split<;>rfl
theorem Ns (way i:Nat):Sc way i<4:=by
  unfold Sc
  split
  · omega
  · split
    · omega
    · split<;>omega
def JP:List (Nat×Nat×Nat):=[0,1,2].flatMap λu=>[0,1,2].flatMap λv=>[0,1,2,3].map λc=>(u,v,c)
theorem Gf {u v c:Nat} (hu:u<=2) (hv:v<=2) (hc:c<4):(u,v,c)∈JP:=by
  have h1:u=0\/u=1\/u=2:=by omega
  have h2:v=0\/v=1\/v=2:=by omega
  have h3:c=0\/c=1\/c=2\/c=3:=by omega
  rcases h1 with rfl|rfl|rfl<;>rcases h2 with rfl|rfl|rfl<;>rcases h3 with rfl|rfl|rfl|rfl<;>decide
section
def crn (t:Nat×Nat×Nat) (r:Nat):Nat:=if r=0 then t.1 else if r=1 then t.2.1 else t.2.2
def El (t:Nat×Nat×Nat) (p:Nat):Bool:=t.1 == p||t.2.1 == p||t.2.2 == p
theorem Hh.crn {m:MQ} {pl:List P2} {n:Nat×Nat×Nat} {t:Nat} (h:Hh m pl n t) {r:Nat} (hr:r<3):Go.Proofs.YtfbomiejpbchdaaGreatDoor.crn n r<pl.length/\pl.getD (Go.Proofs.YtfbomiejpbchdaaGreatDoor.crn n r) (0,0)=Ao m t r:=by
  have:r=0\/r=1\/r=2:=by omega
  rcases this with rfl|rfl|rfl
  · exact h.a
  · exact h.b
  · exact h.c
section
variable {ps:List Pt} {ts:List (Nat×Nat×Nat)}
structure WP (ps:List Pt) (ts:List (Nat×Nat×Nat)) (m:MQ) (pl:List P2):Prop where
  inv:Kw m (BF m).length pl ts
  dst:To pl
  pl_len:ps.length=pl.length
  at_:∀i,i<pl.length->ps.getD i ⟨0,0⟩=D5 (PZ (mapM m) (DK m) (pl.getD i (0,0)))
theorem WP.cell {m:MQ} {pl:List P2} (l:WP ps ts m pl) {t:Nat} (ht:t<ts.length):(BF m).getD t ((0,0),(0,0),(0,0))∈BF m:=by
  have h:=l.inv.tl
  rw [List.getD,List.getElem?_eq_getElem Z];exact List.getElem_mem _
end
end
section
def RK (t:T3) (p:Nat):Int:=if p=t.1 then 0 else if p=t.2.1 then 1 else if p=t.2.2 then 2 else -1
theorem SF (t:T3) (p:Nat):decide (0<=RK t p)=El t p:=by
  unfold RK El
  by_cases h1:p=t.1
  · rw [if_pos h1,h1];simp
  · have h1':¬t.1=p:=λe=>h1 e.symm
    rw [if_neg h1]
    by_cases h2:p=t.2.1
    · rw [if_pos h2,h2];simp
    · have h2':¬t.2.1=p:=λe=>h2 e.symm
      rw [if_neg h2]
      by_cases h3:p=t.2.2
      · rw [if_pos h3,h3];simp
      · have h3':¬t.2.2=p:=λe=>h3 e.symm
        rw [if_neg h3];simp [h1',h2',h3']
abbrev Q3:=Pt×Pt×Pt
def Ge (x:Q3):List Value:=Aj x.1++(Aj x.2.1++(Aj x.2.2++[]))
theorem VB (a b c:Pt):Aj a++Aj b++Aj c=Ge (a,b,c):=by simp [Ge]
def Bi (ps:List Pt) (t:T3):Q3:=(CG ps t.1,CG ps t.2.1,CG ps t.2.2)
def LZ (p q r:Pt):Bool:=decide (0<(Ag p q r).num.sign)
def Ru (p q:Pt) (B:Q3):Int:=if LZ p q B.1=true then 0 else if LZ p q B.2.1=true then 1 else if LZ p q B.2.2=true then 2 else -1
def Fg (p q:Pt) (B:Q3):Bool:=LZ p q B.1||LZ p q B.2.1||LZ p q B.2.2
theorem Sf (p q:Pt) (B:Q3):decide (0<=Ru p q B)=Fg p q B:=by
  unfold Ru Fg
  cases LZ p q B.1<;>cases LZ p q B.2.1<;>cases LZ p q B.2.2<;>rfl
def Dp (A B:Q3):Bool:=!Fg A.1 A.2.1 B||(!Fg A.2.1 A.2.2 B||!Fg A.2.2 A.1 B)
structure Ly (ps:List Pt) (ts ss:List T3):Prop where
  pl:ps.length<=4096
  tl:ts.length<=8192
  t0:0<ts.length
  sl:ss.length<=24576
  sz:∀k,B8 (CG ps k)<=1000
  num:By ps.length ts=true
  pos:∀j,j<ts.length->(Ag (CG ps (ts.getD j (0,0,0)).1) (CG ps (ts.getD j (0,0,0)).2.1) (CG ps (ts.getD j (0,0,0)).2.2)).num.sign=1
  sid:∀j,j<ss.length->(ss.getD j (0,0,0)).1<ps.length/\(ss.getD j (0,0,0)).2.1<ps.length/\(ss.getD j (0,0,0)).2.2<=255
  use:∀p,p<ps.length->∃j,j<ts.length/\El (ts.getD j (0,0,0)) p=true
  dst:ps.Nodup
  apart:∀i k,i<ts.length->k<i->(!Dp (Bi ps (ts.getD i (0,0,0))) (Bi ps (ts.getD k (0,0,0)))&&!Dp (Bi ps (ts.getD k (0,0,0))) (Bi ps (ts.getD i (0,0,0))))=false
  crn:∀i p,i<ts.length->p<ps.length->El (ts.getD i (0,0,0)) p=false->NO ps (CG ps p) (ts.getD i (0,0,0))=0
  rl:ss.length=(EP ts).length
  rim:∀j,j<ss.length->(ss.getD j (0,0,0)).1=((EP ts).getD j (0,0,0)).1/\(ss.getD j (0,0,0)).2.1=((EP ts).getD j (0,0,0)).2.1
theorem Ly.szM {ps:List Pt} {ts ss:List T3} (h:Ly ps ts ss) (k:Nat):B8 (CG ps k)<=1000000:=Nat.le_trans (h.sz k) (by decide)
def LX (x y:Pt):Int:=if Rc x y then -1 else if Rc y x then 1 else 0
theorem Ey {x y:Pt}:LX x y<0↔Rc x y:=by
  unfold LX
  split
  · exact ⟨λ_=>by assumption,λ_=>by decide⟩
  · rename_i h
    split<;>exact ⟨λk=>absurd k (by decide),λk=>absurd k h⟩
theorem PS {ys:List Pt} (h:ys.Nodup) {k:Nat} (h1:1<=k) (hk:k<ys.length) (e:ys.getD k ⟨0,0⟩=ys.getD (k-1) ⟨0,0⟩):False:=by
  rw [List.getD,List.getD,List.getElem?_eq_getElem hk,List.getElem?_eq_getElem (show k-1<ys.length by omega)] at e
  have:=(List.getElem_inj h).1 e
  omega
def bL (us:List Bool):List Value:=us.map Value.bool
theorem LJ (us:List Bool):(bL us).length=us.length:=List.length_map _
theorem Mp (us:List Bool) (j:Nat) (v:Bool):(bL us).set j (.bool v)=bL (us.set j v):=by unfold bL;rw [List.map_set]
theorem UD {us:List Bool} {j:Nat} (h:j<us.length):(bL us)[j*1]?=some (.bool (us.getD j false)):=by simp [bL,h]
def I5 (ts:List T3) (n i:Nat):List Bool:=(List.range n).map λp=>(ts.take i).any λt=>El t p
theorem FR (ts:List T3) (n i:Nat):(I5 ts n i).length=n:=by simp [I5]
theorem Ow (ts:List T3) (n:Nat):List.replicate n false=I5 ts n 0:=by
  unfold I5
  rw [List.take_zero]
  apply List.ext_getElem?
  intro j
  rcases Nat.lt_or_ge j n with h|h
  · simp [h]
  · rw [List.getElem?_eq_none (by simpa using h),List.getElem?_eq_none (by simpa using h)]
theorem PA {ts:List T3} {n i:Nat} (h:i<ts.length):(((I5 ts n i).set (ts.getD i (0,0,0)).1 true).set (ts.getD i (0,0,0)).2.1 true).set (ts.getD i (0,0,0)).2.2 true=I5 ts n (i+1):=by
  apply List.ext_getElem?
  intro j
  have e:ts.take (i+1)=ts.take i++[ts.getD i (0,0,0)]:=by rw [List.take_add_one,List.getD,List.getElem?_eq_getElem h];rfl
  generalize ts.getD i (0,0,0)=T at *
  unfold I5
  rw [e]
  simp only [List.getElem?_set,List.length_set,List.length_map,List.length_range,List.getElem?_map,List.any_append,List.any_cons,List.any_nil,Bool.or_false]
  rcases Nat.lt_or_ge j n with hj|hj
  · rw [List.getElem?_range hj]
    simp only [Option.map_some]
    unfold El
    by_cases h1:T.1=j<;>by_cases h2:T.2.1=j<;>by_cases h3:T.2.2=j<;>simp [h1,h2,h3]<;>try omega
  · rw [List.getElem?_eq_none (by simpa using hj)]
    simp only [Option.map_none]
    by_cases h1:T.1=j<;>by_cases h2:T.2.1=j<;>by_cases h3:T.2.2=j<;>simp [h1,h2,h3]<;>omega
theorem Ql {ts:List T3} {n p:Nat} (hp:p<n) (h:∃j,j<ts.length/\El (ts.getD j (0,0,0)) p=true):(I5 ts n ts.length).getD p false=true:=by
  unfold I5
  rw [List.getD,List.getElem?_map,List.getElem?_range hp,Option.map_some,Option.getD_some,List.take_length,List.any_eq_true]
  obtain ⟨j,hj,h⟩:=h
  exact ⟨_,List.getElem_mem hj,by rwa [List.getD,List.getElem?_eq_getElem hj] at h⟩
section
variable {P:Program} {ops:Array Oper} {rest:List Oper} {Q:Exit->Act->World->Prop} {n d i z m c:Nat} {F:List (Nat×Value)} {w0:BL} {L L':List As} {t ty T:TypeId} {p:String} {af:Array Edge} {x y:Operand} {cs vs:List Value} {q:Option Addr} {v:Value}
theorem AE.makeBool {ki kj:IntKind} {bytes:Nat} (ht:QT P t T (.bool false) bytes) (hx:evF F x=some (.int ki (m:Nat))) (hy:evF F y=some (.int kj (m:Nat))) (hm:m<=1099511627776) (hb:Nat.ble bytes 16=true) (hd:Nat.ble (d+1) n=true)
    (next:∀b,OwnOk (some ⟨b,0,none⟩) m m->AE P ops rest Q n ((d,.slice (some ⟨b,0,none⟩) m m)::F) w0 (rowW (some ⟨b,0,none⟩) T 1 m m (bL (List.replicate m false))::L)) :
    AE P ops (⟨some d,.makeSlice t x y,ty,p,af,none⟩::rest) Q n F w0 L:=AE.makeRow ht hx hy hm hb hd λb ho=>by
  have h:=next b ho
  unfold bL at h
  rw [List.map_replicate] at h
  exact h
end
section
variable {P:Program} {n:Nat} {F:List (Nat×Value)} {w0:BL} {L:List As} {x:Operand} {d:Option Tmp} {t:TypeId} {p:String} {af:Array Edge} {g:Option (Nat×Bool)}
theorem Kp {tx e:TypeId} {b off len k:Nat} (hx:evF F x=some (.pointer (some ⟨b,off,none⟩))) (hu:P.underlying tx=some (.array len e)) (hs:∀w,(sizeOf e).run P w=.ok k w) (h0:0<len) :
    Ex P n F w0 L ⟨d,.slice tx x none none none,t,p,af,g⟩ (.slice (some ⟨b,off,none⟩) len len):=λA w ha _=>by
  have e1:¬len=0:=by omega
  simp [execOp,ha.ev hx,Instr.sliceAt,run_underlying hu,Instr.sureAddr,Instr.sliceBounds,Instr.sliceBound,hs,e1,Addr.add_lit]
end
theorem Th {S:Nat->Prop} {w:World} {ts:List T3} {x:RX (rowsL Av ts) ts.length} (h:Ro S w x) {j:Nat} (hj:j<ts.length) (ok:BB (some ⟨pB x.p,pO x.p+j*3,none⟩) 3 3):Ro S w (⟨some ⟨pB x.p,pO x.p+j*3,none⟩,3,ok⟩:RX (Av (ts.getD j (0,0,0))) 3):=λy hy=>by
  rcases List.mem_singleton.1 hy with rfl
  obtain ⟨h1,h2⟩:=h (Ai x.p (rowsL Av ts)) (List.mem_singleton.2 rfl)
  obtain ⟨a,hp⟩:∃a,x.p=some a:=by
    cases hp:x.p with
    | none=>have:=(x.ok.nil hp).1;omega
    | some a=>exact ⟨a,rfl⟩
  have e:(some (⟨pB x.p,pO x.p+j*3,none⟩:Addr)).map (·.block)=x.p.map (·.block):=by rw [hp];rfl
  refine ⟨λb hb=>?_,λb hb=>h2 b (e.symm.trans hb)⟩
  obtain ⟨o,ho,cur,T,fr,rfl,hc⟩:=h1 b (e.symm.trans hb)
  refine ⟨_,ho,cur,T,fr,rfl,?_⟩
  have hl:=Ar BK (0,0,0) ts j hj
  have hz:=An BK ts
  show (cur.toList.drop (pO x.p+j*3)).take 3=_
  refine Eq.trans ?_ hl
  refine Eq.trans ?_ (congrArg (λl:List Value=>(l.drop (j*3)).take 3) hc)
  show _=(((cur.toList.drop (pO x.p)).take (rowsL Av ts).length).drop (j*3)).take 3
  rw [List.drop_take,List.take_take,List.drop_drop]
  congr 1
  omega
theorem Tx (b o:Nat):BB (some ⟨b,o,none⟩) 3 3:=⟨λe=>(by cases e),λa e=>(by injection e with e;subst e;rfl),Nat.le_refl _⟩
end
end Go.Proofs.YtfbomiejpbchdaaGreatDoor
