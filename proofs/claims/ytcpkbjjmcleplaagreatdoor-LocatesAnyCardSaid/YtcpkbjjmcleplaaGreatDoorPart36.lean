import Derived.Lib.ItoaLen
import Derived.Laws.IdiomStrings
import Derived.Laws.Strings
import Derived.Test.YtcpkbjjmcleplaaGreatDoorPart34
import Derived.Test.YtcpkbjjmcleplaaGreatDoorPart35
namespace Go.Proofs.YtcpkbjjmcleplaaGreatDoor
open Go Go.RowKit Go.Proofs.Tryz
open Go.Value renaming slice→qz,bool→qa
set_option linter.unusedVariables false
set_option linter.unusedSimpArgs false
section
def ZW (l:List UInt8):List Value:=l.map λx=>Value.int .u8 (x.toNat:Int)
theorem Kk (l:List UInt8):(ZW l).length=l.length:=by simp [ZW]
def ON (w : World) : Prop := Lib.TabIs Tryz.prog w "internal/strconv.uint64pow10" .u64 Lib.pow10Tab
theorem Sy (zq:Nat) (hZ:zq=24) (b u:Nat) (T:TypeId) (w:World) (hb:w.heap[b]?=some (.cells (List.replicate zq (Value.int .u8 0)).toArray T (0,0))) (hu:u<18446744073709551616) :
    Calls prog 180 #[.slice (jk b) (Lib.nDigits u) 24,.int .u64 u] w λe w'=>e=.returned (.tuple #[])/\Ka w w' (some b)/\∃o,w'.heap[b]?=some o/\GO 0 (ZW (Lib.decDigits u)) o:=by
  have hnd:=Lib.nDigits_le20 u hu
  have hH:Go.Sort.Holds (λ(b:UInt8)=>Value.int .u8 (b.toNat:Int)) w b 0 (Array.replicate (Lib.nDigits u) (0:UInt8)):=λj hj=>by
    have hj':j<Lib.nDigits u:=by simpa using hj
    refine ⟨?_,by simp [World.frozen?,hb]⟩
    rw [cell_of_row w b _ _ T (0,0) hb,getElem!_pos _ j hj]
    simp [show j<zq by omega]
  have h:=Tryz.internal_strconv_formatBase10 b 0 24 u (Array.replicate (Lib.nDigits u) 0) w hH (by rw [Array.size_replicate];exact Lib.lt_pow_nDigits u) hu (by rw [Array.size_replicate];omega)
  rw [Array.size_replicate] at h
  refine h.mono ?_
  rintro e w' ⟨rfl,n,v',dk,rfl,hF⟩
  refine ⟨rfl,⟨⟨rfl,rfl,rfl,by simp [Go.Sort.putRow,Go.Sort.mapBlock],λk hk hne=>?_⟩,(by show w.drawn<=w.drawn+n;omega)⟩,_,(by simp only [World.heap_drewN,Go.Sort.putRow,Go.Sort.mapBlock,Array.getElem?_modify,hb,if_true,Option.map_some,Go.Sort.onCells]:_=some (.cells (Go.Sort.putCells (λ(b:UInt8)=>Value.int .u8 (b.toNat:Int)) 0 dk (List.replicate zq (Value.int .u8 0)).toArray) T (0,0))),_,T,(0,0),rfl,?_⟩
  · have:b≠k:=λe=>hne (by rw [e])
    simp [Go.Sort.putRow,Go.Sort.mapBlock,Array.getElem?_modify,this]
  · have hsz:dk.size=Lib.nDigits u:=hF.size
    rw [Kk,Lib.decDigits_length]
    apply List.ext_getElem?
    intro j
    by_cases hj:j<Lib.nDigits u
    · have hjd:j<(Lib.decDigits u).length:=by rw [Lib.decDigits_length];exact hj
      rw [List.drop_zero,List.getElem?_take_of_lt hj,Array.getElem?_toList]
      have e1:=Lib.row_is_numeral hF j hjd
      simp only [ZW,List.getElem?_map,xN hjd,e1,Option.map_some]
      simp [Go.Sort.putCells,hj,hsz,show j<zq by omega]
    · rw [List.getElem?_take_eq_none Z,List.getElem?_eq_none (by rw [Kk,Lib.decDigits_length];omega)]
theorem VC (b u:Nat) (T:TypeId) (w:World) (hb:w.heap[b]?=some (.cells (List.replicate 24 (Value.int .u8 0)).toArray T (0,0))) (hu:u<18446744073709551616) :
    Calls prog 180 #[.slice (jk b) (Lib.nDigits u) 24,.int .u64 u] w λe w'=>e=.returned (.tuple #[])/\Ka w w' (some b)/\∃o,w'.heap[b]?=some o/\GO 0 (ZW (Lib.decDigits u)) o:=Sy 24 rfl b u T w hb hu
theorem ON.below {w w':World} (h:ON w) (hb:E8 w.heap.size w w'):ON w':=by
  unfold ON Lib.TabIs World.var? at *
  cases hg : Tryz.prog.globalNamed "internal/strconv.uint64pow10" with
  | none=>simp [hg] at h
  | some g =>
    simp only [hg,Option.bind_some] at h ⊢
    have hlt:g<w.heap.size:=by
      rcases Nat.lt_or_ge g w.heap.size with h'|h'
      · exact h'
      · rw [Array.getElem?_eq_none h'] at h;simp at h
    rw [hb.block g hlt]
    exact h
theorem YP (u:Nat) (h1:1<=u) (h2:u<18446744073709551616) (w:World) (hT:ON w):Calls prog 179 #[vK .u64 u] w (AY w (vN (Lib.nDigits u))) :=
  (Tryz.internal_strconv_numDigits u h1 h2 w hT).mono λe w' h=>⟨h.1,h.2▸E8.refl _ _⟩
theorem Tp (i:Nat) (h:i<100) (w:World):Calls prog 178 #[vN i] w (AY w (.string (txB (Lib.decDigits i)))) :=
  (Tryz.internal_strconv_small i h w).mono λe w' h=>⟨h.1,h.2▸E8.refl _ _⟩
section
variable {ops:Array Oper} {rest:List Oper} {Q:Exit->Act->World->Prop} {n:Nat} {F:List (Nat×Value)} {w0:Av} {L:List As} {t:TypeId} {p:String} {af:Array Edge} {d:Option Tmp} {g:Option (Nat×Bool)} {x:Operand}
theorem AO.callRow {P:Program} {o:Oper} {f:FuncId} {args:Array Value} {v:Value} (i:Nat) {b:Nat} {T:TypeId} {cs cs':List Value} (hw:Wt ops n F o)
    (he:∀a w,CP n a F->A6 w0 w L->(execOp a.eval o).run P w=.ok (.enter f args) w) (hi:L[i]?=some (AQ b T cs))
    (hc:∀w,A6 w0 w L->Calls P f args w λe w'=>e=.returned v/\Ka w w' (some b)/\∃o,w'.heap[b]?=some o/\GO 0 cs' o)
    (hd:∀d,o.dst=some d->d<n) (next:AO P ops rest Q n (match o.dst with|some d=>(d,v)::F|none=>F) w0 (L.set i (AI (jk b) cs'))):AO P ops (o::rest) Q n F w0 L:=λa w ha hW=>by
  unfold wpList
  rw [if_pos (hw a ha)]
  left
  unfold Oper.wp
  rw [he a w ha hW,Oper.upon_enter]
  refine (hc w hW).mono ?_
  rintro e w' ⟨rfl,hg,o',hcell,hl⟩
  have hW':=hW.turn hi rfl rfl hg ⟨o',hcell,hl⟩ (y:=AI (jk b) cs')
  cases hdd:o.dst with
  | none=>rw [hdd] at next;exact next _ _ ha.put_none hW'
  | some d=>rw [hdd] at next;exact next _ _ (ha.put (hd d hdd)) hW'
theorem Fp {P:Program} {tx e:TypeId} {b len k m:Nat} {ki:IntKind} {hi:Operand} (hx:evF F x=some (.pointer (jk b))) (hh:evF F hi=some (.int ki (m:Nat))) (hu:P.underlying tx=some (.array len e)) (hs:∀w,(sizeOf e).run P w=.ok k w) (hm:m<=len) (h0:0<len) :
    Ex P n F w0 L ⟨d,.slice tx x none (some hi) none,t,p,af,g⟩ (.slice (jk b) m len):=λA w ha _=>by
  have e1:¬len=0:=by omega
  simp [execOp,ha.ev hx,ha.ev hh,Instr.sliceAt,run_underlying hu,Instr.sureAddr,Instr.sliceBounds,Instr.sliceBound,asIntOf,hs,e1,hm,Addr.add_lit]
theorem ML {P:Program} {src dst e:TypeId} {b k:Nat} {cap m:Nat} {l:List UInt8} (hx:evF F x=some (.slice (jk b) m cap)) (hm:m=l.length) (hi:L[k]?=some (AI (jk b) (ZW l))) (hs:P.underlying src=some (.slice e)) (he:P.underlying e=some (.int .u8)) (hd:P.underlying dst=some .string) :
    Ex P n F w0 L ⟨d,.convert src dst x,t,p,af,g⟩ (.string (txB l)):=λA w hf hW=>by
  subst hm
  have h:=run_convert_bytes_back (P:=P) w src dst e ⟨b,0,none⟩ cap l hs he hd (λj hj=>by
    obtain ⟨o,ho,hp⟩:=hW.holds hi b rfl
    rw [Addr.add_lit]
    exact GO.cell hp ho (by simp [ZW,hj]))
  simp only [execOp,hf.ev hx,Sem.run_bind,h,Result.andThen_ok,Sem.run_pure]
  rfl
end
end
section
set_option maxRecDepth 100000
theorem O0 (n:Nat) (hn:n<18446744073709551616) (w:World) (hT:ON w):Calls prog 136 #[(vK .u64 n),(vI 10)] w (AY w (Value.string (txB (Lib.decDigits n)))):=by
 have hnd:=Lib.nDigits_le20 n hn
 refine AS (args:=[(vK .u64 n),(vI 10)]) func136 O O (leB O) (zG (sL [0,1] O) (q4 (asg' O (oNl' (q1 (q4 (AL O (st' (Az (c:=true) O O jY) O (oNl' (zB (sL [0,1,4,10] O) (zA ?_)))))))))))
 refine zY O (zV (q4 (AL O (st' (Ag (c:=(decide (n<100))) O O (DL (a:=n) (b:=100))) O (oNl' (zB (sL [0,1,4,12] O) (zA ?_)))))))
 refine zK O (λhc1=>?_) (λhc1=>?_)
 ·replace hc1:=xR hc1
  exact q4 (AL O (st' (An (c:=((n:Nat):Int)) O underlying52 underlying3 (D_ Z)) O (ck' call178 (Tp n Z) O (asg' O (oNl' (zB (sL [0,1,4] O) (zA (zF (zH (zH (ret_one O (rd_tmp (v:=(Value.string (txB (Lib.decDigits n)))) O) (λw hw=>⟨rfl,hw.out⟩))))))))))))
 ·replace hc1:=xQ hc1
  refine zI (q2 (al dU O λb1=>oNl' (q2 (AL O (CC call179 (λw hw=>YP n Z Z w (hT.below hw.out)) O (asg' O (q3 (sL [0,1,4,5,6] O) (AL O (st' (v:=(qz (jk b1) (Lib.nDigits n) 24)) (Fp (len:=24) (m:=Lib.nDigits n) O O underlying257 sizeOf5 Z jY) O (AL O ?_))))))))))
  exact AO.callRow 0 (cs':=ZW (Lib.decDigits n)) (v:=(Value.tuple #[])) (AJ O) (Ac (args:=[(qz (jk b1) (Lib.nDigits n) 24),(vK .u64 n)]) O O call180) O (λw hw=>VC _ _ 257 w (hw.get (i:=0) O) hn) (λd hd=>by cases hd<;>exact (leB O)) (q3 (sL [0,1,4,5,6] O) (AL O (st' (v:=(qz (jk b1) (Lib.nDigits n) 24)) (Fp (len:=24) (m:=Lib.nDigits n) O O underlying257 sizeOf5 Z jY) O (st' (v:=(Value.string (txB (Lib.decDigits n)))) (ML (k:=0) O (Lib.decDigits_length n).symm O underlying45 underlying5 underlying9) O (asg' O (oNl' (zB (sL [0,1,4,5,6] O) (zA (zF (zH (ret_one O (rd_tmp (v:=(Value.string (txB (Lib.decDigits n)))) O) (λw hw=>⟨rfl,hw.out⟩))))))))))))
theorem QN (n:Nat) (hn:n<18446744073709551616) (w:World) (hT:ON w):Calls prog 84 #[(vK .u64 n),(vI 10)] w (AY w (Value.string (txB (Lib.decDigits n)))):=by
 refine AS (args:=[(vK .u64 n),(vI 10)]) func84 O O (leB O) (zG (sL [0,1] O) (q4 (asg' O (oNl' (q2 (AL O (AL O (CC call136 (λw hw=>O0 n Z w (hT.below hw.out)) O (asg' O (oNl' (zB (sL [4] O) ?_)))))))))))
 exact zA (zF (ret_one O (rd_tmp (v:=(Value.string (txB (Lib.decDigits n)))) O) (λw hw=>⟨rfl,hw.out⟩)))
end

section
set_option maxRecDepth 100000
theorem RL (z:QD) (h:z.ok) (w:World) {S:Nat->Prop}  :Calls prog 53 #[(aG (IE z))] w (Ai (FX (L9 z)) S w):=by
 obtain ⟨h1,h2,h3⟩:=h
 refine AS (args:=[(aG (IE z))]) func53 O O (leB O) (zG (sL [0] O) (q4 (A9 (cs:=IE z) O λb1=>al HZ O λb2=>q3 (sL [1,2] O) (st' (v:=(pP b1 0)) (AA O underlying29 O sizeOf2 O) O (BZ 1 (vI z.n) dw O (st' (v:=(pP b1 1)) (AA O underlying29 O sizeOf27 O) O (BZ 1 (vK .u32 z.d) bB O (st' (Nf (c:=((max z.d 1:Nat):Int)) O O (by split<;>omega)) O (st' (An (c:=((max z.d 1:Nat):Int)) O underlying27 underlying2 (D_ Z)) O ?_)))))))))
 exact cF (S:=S) (x:=(L9 z)) (args:=[(vI z.n),(vN (max z.d 1))]) call96 (λw hw=>(Ai.cast (T:=λi=>FX i) O (ap z.n ((max z.d 1:Nat):Int) Z Z Z Z w))) O O O λg1 lg1=>Ee O sizeOf84 O (oNl' (zB (sL [2] O) (zA (zF (ret_one O (Aa (i:=2) (cs:=fxL g1) O O isAgg84 sizeOf84 O) (λw hw=>DC (a:=(g1:FX (L9 z))) hw (inS hw 0 O lg1) O))))))
theorem F6 {r0:Rat} (x0:FX r0) {r1:Rat} (x1:FX r1):Instr.fill ([(0,3),(3,3)].toArray[·]?) ([(qa false),jj,jj,(qa false),jj,jj]).toArray [(0,.agg (fxL x0).toArray),(1,.agg (fxL x1).toArray)]=some (fxL x0++fxL x1).toArray:=by kernel_rfl
theorem IR (p:PD) (h:p.ok) (w:World) {S:Nat->Prop}  :Calls prog 22 #[(aG (Cn p))] w (Ai (PX (Gh p)) S w):=by
 have h1:=h.1
 have h2:=h.2
 refine AS (args:=[(aG (Cn p))]) func22 O O (leB O) (zG (sL [0] O) (q4 (A9 (cs:=Cn p) O λb1=>al I4 O λb2=>q6 (sL [1,2] O) (B8 [(0,true),(1,true),(3,true),(4,true),(2,false),(5,false),(6,true),(7,false)] (sl sr) (Ao (v:=(pP b1 0)) O (AA O underlying31 O sizeOf29 O) (Dd 0 (IE p.x) Tt O (Ao (v:=(pP b1 2)) O (AA O underlying31 O sizeOf29 O) (Dd 0 (IE p.y) Tt O (zD O ?_)))))))))
 refine cF (S:=S) (x:=(L9 p.x)) (args:=[(aG (IE p.x))]) call53 (λw hw=>RL p.x (by assumption) w) O O O λg1 lg1=>zC (sl (sl (sl sr))) (zD O (cF (S:=S) (x:=(L9 p.y)) (args:=[(aG (IE p.y))]) call53 (λw hw=>RL p.y (by assumption) w) O O O λg2 lg2=>zC (sl (sl (sl (sl (sl sr))))) (Ao (v:=(aG (fxL g1++fxL g2))) O (AR (zs:=[(qa false),jj,jj,(qa false),jj,jj]) (vs:=fxL g1++fxL g2) (pv:=[(0,(aG (fxL g1))),(1,(aG (fxL g2)))]) (places:=[(0,3),(3,3)]) zeroValue86 underlying86 (λw=>by simp [sizeOf84]) O (F6 g1 g2)) (zD O (EV 4 (off:=0) (vs:=fxL g1++fxL g2) (cs':=fxL g1++fxL g2) (AJ O) O sizeOf86 O (zC (sl (sl (sl (sl (sl sr))))) (zP (zB (sL [2] O) (zA ?_)))))))))
 exact zF (ret_one O (Aa (i:=4) (cs:=fxL g1++fxL g2) O O isAgg86 sizeOf86 O) (λw hw=>DC (a:=((PX.mk g1 g2:PX (⟨L9 p.x,L9 p.y⟩:Pt)):PX (Gh p))) hw (cL (inS hw 2 O lg1) (inS hw 0 O lg2)) O))
end
section
set_option maxRecDepth 100000
end
section
structure S3 (u v q:Rat) where
  b:Nat
  f:FX u
  g:FX v
  h:FX q
@[reducible] def S3.p {u v q:Rat} (a:S3 u v q):Option Addr:=some ⟨a.b,0,none⟩
def gM {u v q:Rat} (a:S3 u v q):List Value:=fxL a.f++fxL a.g++fxL a.h
theorem S3.ok {u v q:Rat} (a:S3 u v q):BI a.p 3 3:=⟨(λe=>by cases e),(λc e=>by injection e with e;rw [<-e]),Nat.le_refl _⟩
def du {u v q:Rat} (a:S3 u v q):List As:=[AI a.p (gM a),AM a.f.z.n,AM a.f.m,AM a.g.z.n,AM a.g.m,AM a.h.z.n,AM a.h.m]
theorem WN {u v q:Rat} (a:S3 u v q):∀y∈du a,y.ro=true:=λy hy=>by
  simp only [du,xL,List.not_mem_nil,or_false] at hy
  rcases hy with rfl|rfl|rfl|rfl|rfl|rfl|rfl<;>rfl
instance {u v q:Rat}:CT (S3 u v q):=⟨λa=>.slice a.p 3 3,du,WN⟩
structure fu (u v q:Rat) where
  s:S3 u v q
instance {u v q:Rat}:CT (fu u v q):=⟨λa=>.tuple #[.slice a.s.p 3 3,vI 0],λa=>du a.s,λa=>WN a.s⟩
section
variable {S:Nat->Prop} {w W:World} {w0:Av} {L:List As} {u v q:Rat}
end
section
variable {P:Program} {ops:Array Oper} {rest:List Oper} {Q:Exit->Act->World->Prop} {n d:Nat} {F:List (Nat×Value)} {w0:Av} {S:Nat->Prop} {L:List As} {t:TypeId} {p:String} {af:Array Edge} {y:Operand} {f:FuncId} {xs:List Operand} {args:List Value} {ts:Array TypeId}
end
end
section
set_option maxRecDepth 100000
def Jk (a b c:Pt):Rat:=AF a b c/((2:Int):Rat)
theorem UY:Sz ((2:Int):Rat)<=2:=H3 jY jY
theorem UV (a b c:Pt):Sz (Jk a b c)<=4*BD a+2*BD b+2*BD c+7:=by
 have h1:=EM a b c
 have h2:=Hf (AF a b c) ((2:Int):Rat)
 have h3:=UY
 exact xK h2 Z
theorem P1 (a b c:Pt):((Jk a b c).num.sign=0)=(AF a b c=0):=by
 have h2:((2:Int):Rat)≠0:=by decide +kernel
 rw [Int.sign_eq_zero_iff_zero,Rat.num_eq_zero]
 unfold Jk
 refine propext ⟨λh=>?_,λh=>by rw [h,Rat.div_def,Rat.zero_mul]⟩
 have h3:AF a b c/((2:Int):Rat)*((2:Int):Rat)=AF a b c:=Rat.div_mul_cancel h2
 rw [<-h3,h,Rat.zero_mul]
theorem Tk {x y z:Pt} (a:PX x) (b:PX y) (d:PX z) (hs:BD x+BD y+BD z<=65536) (w:World) {S:Nat->Prop} (ha:Ro S w a) (hb:Ro S w b) (hd:Ro S w d)  :Calls prog 187 #[(aG (AZ a)),(aG (AZ b)),(aG (AZ d))] w (Ai (FX (Jk x y z)) S w):=by
 have s2:=UY
 have la:=Bs (W:=w) ha
 have lb:=Bs (W:=w) hb
 have ld:=Bs (W:=w) hd
 refine AX (args:=[(aG (AZ a)),(aG (AZ b)),(aG (AZ d))]) (L:=[AM a.x.z.n,AM a.x.m,AM a.y.z.n,AM a.y.m,AM b.x.z.n,AM b.x.m,AM b.y.z.n,AM b.y.m,AM d.x.z.n,AM d.x.m,AM d.y.z.n,AM d.y.m]) func187 O O (leB O) (E1 ha (E1 hb (E1 hd Al))) (zG (sL [0,1,2] O) (q4 (A9 (cs:=AZ a) O λb1=>A9 (cs:=AZ b) O λb2=>A9 (cs:=AZ d) O λb3=>al HZ O λb4=>q6 (sL [3,4,5,6] O) (B8 [(0,true),(1,true),(3,true),(4,true),(2,false),(5,false),(6,false),(7,false),(8,false),(9,false)] (sl sr) (Bv 1 Ap O (Bv 2 Ap O (Bv 0 Ap O ?_)))))))
 refine Bv 2 Ap O (zD O ?_)
 have hz1:=Bi y x
 refine cP (S:=S) (x:=(y-x)) (args:=[(aG (AZ b)),(aG (AZ a))]) call108 (λw hw=>Cw b a Z w (inS hw 8 O lb) (inS hw 4 O la)) O O O λg1 lg1=>zC (sl (sl (sl (sl (sl sr))))) (zD O ?_)
 have hz2:=Bi z x
 refine cP (S:=S) (x:=(z-x)) (args:=[(aG (AZ d)),(aG (AZ a))]) call108 (λw hw=>Cw d a Z w (inS hw 16 O ld) (inS hw 8 O la)) O O O λg2 lg2=>zC (sl (sl (sl (sl (sl (sl (sl (sl (sl sr))))))))) (zD O ?_)
 have hz3:=Eq (y-x) (z-x)
 refine cF (S:=S) (x:=(A8 (y-x) (z-x))) (args:=[(aG (AZ g1)),(aG (AZ g2))]) call152 (λw hw=>Gl g1 g2 Z w (inS hw 4 O lg1) (inS hw 0 O lg2)) O O O λg3 lg3=>zC (sl (sl (sl (sl (sl (sl (sl (sl (sl (sl (sl sr))))))))))) (zD O (cF (S:=S) (x:=(((2:Int):Int):Rat)) (args:=[(vI 2)]) call98 (λw hw=>Hp (2:Int) Z Z w) O O O λg4 lg4=>zC (sl (sl (sl (sl (sl (sl (sl (sl (sl (sl (sl (sl (sl sr))))))))))))) (zD O ?_)))
 have hz4:=Hf (A8 (y-x) (z-x)) (((2:Int):Int):Rat)
 exact cF (S:=S) (x:=((A8 (y-x) (z-x))/(((2:Int):Int):Rat))) (args:=[(aG (fxL g3)),(aG (fxL g4))]) call101 (λw hw=>It g3 g4 (by (try simp only [BE]);omega) w (inS hw 2 O lg3) (inS hw 0 O lg4)) O O O λg5 lg5=>zC (sl (sl (sl (sl (sl (sl (sl (sl (sl (sl (sl (sl (sl (sl (sl sr))))))))))))))) (zD O (EV 14 (off:=0) (vs:=fxL g5) (cs':=fxL g5) (AJ O) O sizeOf84 O (zC (sl (sl (sl (sl (sl (sl (sl (sl (sl (sl (sl (sl (sl (sl (sl sr))))))))))))))) (zP (zB (sL [6] O) (zA (zF (ret_one O (Aa (i:=14) (cs:=fxL g5) O O isAgg84 sizeOf84 O) (λw hw=>DC (a:=(g5:FX (Jk x y z))) hw (inS hw 0 O lg5) O)))))))))
theorem Tl {x y z:Pt} (a:PX x) (b:PX y) (d:PX z) (hs:BD x+BD y+BD z<=32768) (w:World) {S:Nat->Prop} (ha:Ro S w a) (hb:Ro S w b) (hd:Ro S w d)  :Calls prog 147 #[(aG (AZ a)),(aG (AZ b)),(aG (AZ d))] w (AY w (qa (decide (AF x y z=0)))):=by
 have la:=Bs (W:=w) ha
 have lb:=Bs (W:=w) hb
 have ld:=Bs (W:=w) hd
 refine AX (args:=[(aG (AZ a)),(aG (AZ b)),(aG (AZ d))]) (L:=[AM a.x.z.n,AM a.x.m,AM a.y.z.n,AM a.y.m,AM b.x.z.n,AM b.x.m,AM b.y.z.n,AM b.y.m,AM d.x.z.n,AM d.x.m,AM d.y.z.n,AM d.y.m]) func147 O O (leB O) (E1 ha (E1 hb (E1 hd Al))) (zG (sL [0,1,2] O) (q4 (A9 (cs:=AZ a) O λb1=>A9 (cs:=AZ b) O λb2=>A9 (cs:=AZ d) O λb3=>asg' O (q3 (sL [3,4,5,6] O) (Ah 2 Ap O (Ah 1 Ap O (Ah 0 Ap O ?_)))))))
 have hz1:=UV x y z
 exact cF (S:=S) (x:=(Jk x y z)) (args:=[(aG (AZ a)),(aG (AZ b)),(aG (AZ d))]) call187 (λw hw=>Tk a b d Z w (inS hw 3 O la) (inS hw 7 O lb) (inS hw 11 O ld)) O O O λg1 lg1=>CC call104 (λw hw=>GA g1 w (inS hw 0 O lg1)) O (st' (Az (c:=(decide (((Jk x y z).num.sign)=(0:Int)))) O O O) O (asg' O (oNl' (zB (sL [6] O) (zA (zF (ret_one O (rd_tmp (v:=(qa (decide (((Jk x y z).num.sign)=(0:Int))))) O) (λw hw=>⟨by simp only [P1],hw.out⟩))))))))
def F0 (a b c p:Pt):Nat :=
 if AF a b c=0 then 0 else if (CG p a||CG p b||CG p c)=true then 3 else if (Db a b p||Db b c p||Db c a p)=true then 2
 else if ((decide ((AF a b p).num.sign=(AF a b c).num.sign)&&decide ((AF b c p).num.sign=(AF a b c).num.sign))&&decide ((AF c a p).num.sign=(AF a b c).num.sign))=true then 1 else 0
theorem Qr {x y z p:Pt} (a:PX x) (b:PX y) (d:PX z) (e:PX p) (hs:BD x+BD y+BD z+BD p<=16384) (w:World) {S:Nat->Prop} (ha:Ro S w a) (hb:Ro S w b) (hd:Ro S w d) (he:Ro S w e)  :Calls prog 94 #[(aG (AZ a)),(aG (AZ b)),(aG (AZ d)),(aG (AZ e))] w (AY w (vN (F0 x y z p))):=by
 have la:=Bs (W:=w) ha
 have lb:=Bs (W:=w) hb
 have ld:=Bs (W:=w) hd
 have le:=Bs (W:=w) he
 refine AX (args:=[(aG (AZ a)),(aG (AZ b)),(aG (AZ d)),(aG (AZ e))]) (L:=[AM a.x.z.n,AM a.x.m,AM a.y.z.n,AM a.y.m,AM b.x.z.n,AM b.x.m,AM b.y.z.n,AM b.y.m,AM d.x.z.n,AM d.x.m,AM d.y.z.n,AM d.y.m,AM e.x.z.n,AM e.x.m,AM e.y.z.n,AM e.y.m]) func94 O O (leB O) (E1 ha (E1 hb (E1 hd (E1 he Al)))) (zG (sL [0,1,2,3] O) (q4 (A9 (cs:=AZ a) O λb1=>A9 (cs:=AZ b) O λb2=>A9 (cs:=AZ d) O λb3=>A9 (cs:=AZ e) O λb4=>asg' O (q6 (sL [4,5,6,7,8] O) (q4 (Ah 3 Ap O (Ah 2 Ap O ?_)))))))
 refine Ah 1 Ap O (CC call147 (λw hw=>Tl a b d Z w (inS hw 4 O la) (inS hw 8 O lb) (inS hw 12 O ld)) O (oNl' (zB (sL [4,5,6,7,8,13] O) (zA ?_))))
 refine zK O (λhc0=>?_) (λhc0=>?_)
 ·replace hc0:=xR hc0
  exact q4 (asg' O (oNl' (zA (zF (zH (ret_one O (rd_tmp (v:=(vI 0)) O) (λw hw=>⟨by unfold F0;simp_all [vN];try (rw [if_neg (by grind)];rfl),hw.out⟩)))))))
 ·replace hc0:=xQ hc0
  refine zI (q1 (q4 (Ah 0 Ap O (Ah 3 Ap O (CC call54 (λw hw=>Ej e a Z w (inS hw 16 O le) (inS hw 4 O la)) O (AL O ?_))))))
  refine zg (FM:=[(4,(pP b1 0)),(5,(pP b2 0)),(6,(pP b3 0)),(7,(pP b4 0)),(8,(vI 0)),(14,(aG (AZ e))),(15,(aG (AZ a))),(16,(qa (CG p x))),(17,(qa (CG p x))),(21,(qa ((CG p x)||(CG p y))))]) (LM:=[AQ b4 86 (AZ e),AQ b3 86 (AZ d),AQ b2 86 (AZ b),AQ b1 86 (AZ a),AM a.x.z.n,AM a.x.m,AM a.y.z.n,AM a.y.m,AM b.x.z.n,AM b.x.m,AM b.y.z.n,AM b.y.m,AM d.x.z.n,AM d.x.m,AM d.y.z.n,AM d.y.m,AM e.x.z.n,AM e.x.m,AM e.y.z.n,AM e.y.m]) 4 ?_ ?_
  ·rcases xO (CG p x) with hg1|hg1
   ·refine zJ (k:=17) (u:=qa true) O (by rw [hg1]) ?_
    have hg1':=hg1
    skip
    exact BF O (BF O (BF O (st' (v:=(qa true)) (ex_pick_true O O) O (oNl' (zS CK (xP _))))))
   ·refine zJ (k:=17) (u:=qa false) O (by rw [hg1]) ?_
    have hg1':=hg1
    skip
    exact BN (v:=(aG (AZ e))) O (AW (i:=0) (vs:=AZ e) O O Ap.a Ap.s O O) (BN (v:=(aG (AZ b))) O (AW (i:=2) (vs:=AZ b) O O Ap.a Ap.s O O) (zc (v:=(qa (CG p y))) (AE O) (Ac (args:=[(aG (AZ e)),(aG (AZ b))]) O O call54) (λw hw=>Ej e b Z w (inS hw 16 O le) (inS hw 8 O lb)) O (leB O) (st' (v:=(qa (CG p y))) (AN O O) O (oNl' (zS CK (xP _))))))
  refine AL O ?_
  refine zg (FM:=[(4,(pP b1 0)),(5,(pP b2 0)),(6,(pP b3 0)),(7,(pP b4 0)),(8,(vI 0)),(14,(aG (AZ e))),(15,(aG (AZ a))),(16,(qa (CG p x))),(17,(qa (CG p x))),(21,(qa ((CG p x)||(CG p y)))),(22,(qa ((CG p x)||(CG p y)))),(26,(qa (((CG p x)||(CG p y))||(CG p z))))]) (LM:=[AQ b4 86 (AZ e),AQ b3 86 (AZ d),AQ b2 86 (AZ b),AQ b1 86 (AZ a),AM a.x.z.n,AM a.x.m,AM a.y.z.n,AM a.y.m,AM b.x.z.n,AM b.x.m,AM b.y.z.n,AM b.y.m,AM d.x.z.n,AM d.x.m,AM d.y.z.n,AM d.y.m,AM e.x.z.n,AM e.x.m,AM e.y.z.n,AM e.y.m]) 4 ?_ ?_
  ·rcases xO ((CG p x)||(CG p y)) with hg2|hg2
   ·refine zJ (k:=22) (u:=qa true) O (by rw [hg2]) ?_
    have hg2':=hg2
    simp only [jK] at hg2'
    exact BF O (BF O (BF O (st' (v:=(qa true)) (ex_pick_true O O) O (oNl' (zS Hw (xP _))))))
   ·refine zJ (k:=22) (u:=qa false) O (by rw [hg2]) ?_
    have hg2':=hg2
    simp only [jK] at hg2'
    exact BN (v:=(aG (AZ e))) O (AW (i:=0) (vs:=AZ e) O O Ap.a Ap.s O O) (BN (v:=(aG (AZ d))) O (AW (i:=1) (vs:=AZ d) O O Ap.a Ap.s O O) (zc (v:=(qa (CG p z))) (AE O) (Ac (args:=[(aG (AZ e)),(aG (AZ d))]) O O call54) (λw hw=>Ej e d Z w (inS hw 16 O le) (inS hw 12 O ld)) O (leB O) (st' (v:=(qa (CG p z))) (AN O O) O (oNl' (zS Hw (xP _))))))
  refine oNl' (zB (sL [4,5,6,7,8,26] O) (zA ?_))
  refine zK O (λhc1=>?_) (λhc1=>?_)
  ·simp only [jK] at hc1
   exact q4 (asg' O (oNl' (zA (zF (zH (ret_one O (rd_tmp (v:=(vI 3)) O) (λw hw=>⟨by unfold F0;simp_all [vN];try (rw [if_neg (by grind)];rfl),hw.out⟩)))))))
  ·simp only [jK] at hc1
   refine zI (q1 (q4 (Ah 3 Ap O (Ah 2 Ap O (Ah 0 Ap O (CC call148 (λw hw=>FC a b e Z w (inS hw 4 O la) (inS hw 8 O lb) (inS hw 16 O le)) O (AL O ?_)))))))
   refine zg (FM:=[(4,(pP b1 0)),(5,(pP b2 0)),(6,(pP b3 0)),(7,(pP b4 0)),(8,(vI 0)),(27,(aG (AZ a))),(28,(aG (AZ b))),(29,(aG (AZ e))),(30,(qa (Db x y p))),(31,(qa (Db x y p))),(36,(qa ((Db x y p)||(Db y z p))))]) (LM:=[AQ b4 86 (AZ e),AQ b3 86 (AZ d),AQ b2 86 (AZ b),AQ b1 86 (AZ a),AM a.x.z.n,AM a.x.m,AM a.y.z.n,AM a.y.m,AM b.x.z.n,AM b.x.m,AM b.y.z.n,AM b.y.m,AM d.x.z.n,AM d.x.m,AM d.y.z.n,AM d.y.m,AM e.x.z.n,AM e.x.m,AM e.y.z.n,AM e.y.m]) 5 ?_ ?_
   ·rcases xO (Db x y p) with hg3|hg3
    ·refine zJ (k:=31) (u:=qa true) O (by rw [hg3]) ?_
     have hg3':=hg3
     skip
     exact BF O (BF O (BF O (BF O (st' (v:=(qa true)) (ex_pick_true O O) O (oNl' (zS Mc (xP _)))))))
    ·refine zJ (k:=31) (u:=qa false) O (by rw [hg3]) ?_
     have hg3':=hg3
     skip
     exact BN (v:=(aG (AZ b))) O (AW (i:=2) (vs:=AZ b) O O Ap.a Ap.s O O) (BN (v:=(aG (AZ d))) O (AW (i:=1) (vs:=AZ d) O O Ap.a Ap.s O O) (BN (v:=(aG (AZ e))) O (AW (i:=0) (vs:=AZ e) O O Ap.a Ap.s O O) (zc (v:=(qa (Db y z p))) (AE O) (Ac (args:=[(aG (AZ b)),(aG (AZ d)),(aG (AZ e))]) O O call148) (λw hw=>FC b d e Z w (inS hw 8 O lb) (inS hw 12 O ld) (inS hw 16 O le)) O (leB O) (st' (v:=(qa (Db y z p))) (AN O O) O (oNl' (zS Mc (xP _)))))))
   refine AL O ?_
   refine zg (FM:=[(4,(pP b1 0)),(5,(pP b2 0)),(6,(pP b3 0)),(7,(pP b4 0)),(8,(vI 0)),(27,(aG (AZ a))),(28,(aG (AZ b))),(29,(aG (AZ e))),(30,(qa (Db x y p))),(31,(qa (Db x y p))),(36,(qa ((Db x y p)||(Db y z p)))),(37,(qa ((Db x y p)||(Db y z p)))),(42,(qa (((Db x y p)||(Db y z p))||(Db z x p))))]) (LM:=[AQ b4 86 (AZ e),AQ b3 86 (AZ d),AQ b2 86 (AZ b),AQ b1 86 (AZ a),AM a.x.z.n,AM a.x.m,AM a.y.z.n,AM a.y.m,AM b.x.z.n,AM b.x.m,AM b.y.z.n,AM b.y.m,AM d.x.z.n,AM d.x.m,AM d.y.z.n,AM d.y.m,AM e.x.z.n,AM e.x.m,AM e.y.z.n,AM e.y.m]) 5 ?_ ?_
   ·rcases xO ((Db x y p)||(Db y z p)) with hg4|hg4
    ·refine zJ (k:=37) (u:=qa true) O (by rw [hg4]) ?_
     have hg4':=hg4
     simp only [jK] at hg4'
     exact BF O (BF O (BF O (BF O (st' (v:=(qa true)) (ex_pick_true O O) O (oNl' (zS Pl (xP _)))))))
    ·refine zJ (k:=37) (u:=qa false) O (by rw [hg4]) ?_
     have hg4':=hg4
     simp only [jK] at hg4'
     exact BN (v:=(aG (AZ d))) O (AW (i:=1) (vs:=AZ d) O O Ap.a Ap.s O O) (BN (v:=(aG (AZ a))) O (AW (i:=3) (vs:=AZ a) O O Ap.a Ap.s O O) (BN (v:=(aG (AZ e))) O (AW (i:=0) (vs:=AZ e) O O Ap.a Ap.s O O) (zc (v:=(qa (Db z x p))) (AE O) (Ac (args:=[(aG (AZ d)),(aG (AZ a)),(aG (AZ e))]) O O call148) (λw hw=>FC d a e Z w (inS hw 12 O ld) (inS hw 4 O la) (inS hw 16 O le)) O (leB O) (st' (v:=(qa (Db z x p))) (AN O O) O (oNl' (zS Pl (xP _)))))))
   refine oNl' (zB (sL [4,5,6,7,8,42] O) (zA ?_))
   refine zK O (λhc2=>?_) (λhc2=>?_)
   ·simp only [jK] at hc2
    exact q4 (asg' O (oNl' (zA (zF (zH (ret_one O (rd_tmp (v:=(vI 2)) O) (λw hw=>⟨by unfold F0;simp_all [vN];try (rw [if_neg (by grind)];rfl),hw.out⟩)))))))
   ·simp only [jK] at hc2
    refine zI (q2 (Ah 3 Ap O (Ah 2 Ap O (Ah 1 Ap O (CC call149 (λw hw=>FJ a b d Z w (inS hw 4 O la) (inS hw 8 O lb) (inS hw 12 O ld)) O (asg' O (q6 (sL [4,5,6,7,8,9] O) (q4 (Ah 3 Ap O (Ah 2 Ap O (Ah 0 Ap O ?_)))))))))))
    refine CC call149 (λw hw=>FJ a b e Z w (inS hw 4 O la) (inS hw 8 O lb) (inS hw 16 O le)) O (AL O (st' (Az (c:=(decide (((AF x y p).num.sign)=((AF x y z).num.sign)))) O O O) O (AL O ?_)))
    refine zg (FM:=[(4,(pP b1 0)),(5,(pP b2 0)),(6,(pP b3 0)),(7,(pP b4 0)),(8,(vI 0)),(9,(vI ((AF x y z).num.sign))),(47,(aG (AZ a))),(48,(aG (AZ b))),(49,(aG (AZ e))),(50,(vI ((AF x y p).num.sign))),(51,(vI ((AF x y z).num.sign))),(52,(qa (decide (((AF x y p).num.sign)=((AF x y z).num.sign))))),(53,(qa (decide (((AF x y p).num.sign)=((AF x y z).num.sign))))),(60,(qa ((decide (((AF x y p).num.sign)=((AF x y z).num.sign)))&&(decide (((AF y z p).num.sign)=((AF x y z).num.sign))))))]) (LM:=[AQ b4 86 (AZ e),AQ b3 86 (AZ d),AQ b2 86 (AZ b),AQ b1 86 (AZ a),AM a.x.z.n,AM a.x.m,AM a.y.z.n,AM a.y.m,AM b.x.z.n,AM b.x.m,AM b.y.z.n,AM b.y.m,AM d.x.z.n,AM d.x.m,AM d.y.z.n,AM d.y.m,AM e.x.z.n,AM e.x.m,AM e.y.z.n,AM e.y.m]) 7 ?_ ?_
    ·rcases xO (decide (((AF x y p).num.sign)=((AF x y z).num.sign))) with hg5|hg5
     ·refine zJ (k:=53) (u:=qa true) O (by rw [hg5]) ?_
      have hg5':=xR hg5
      exact BN (v:=(aG (AZ b))) O (AW (i:=2) (vs:=AZ b) O O Ap.a Ap.s O O) (BN (v:=(aG (AZ d))) O (AW (i:=1) (vs:=AZ d) O O Ap.a Ap.s O O) (BN (v:=(aG (AZ e))) O (AW (i:=0) (vs:=AZ e) O O Ap.a Ap.s O O) (zc (v:=(vI ((AF y z p).num.sign))) (AE O) (Ac (args:=[(aG (AZ b)),(aG (AZ d)),(aG (AZ e))]) O O call149) (λw hw=>FJ b d e Z w (inS hw 8 O lb) (inS hw 12 O ld) (inS hw 16 O le)) O (leB O) (FV O (BN (v:=(qa (decide (((AF y z p).num.sign)=((AF x y z).num.sign))))) O (Az (c:=(decide (((AF y z p).num.sign)=((AF x y z).num.sign)))) O O O) (st' (v:=(qa (decide (((AF y z p).num.sign)=((AF x y z).num.sign))))) (ex_pick_true O O) O (oNl' (zS Pm (xP _)))))))))
     ·refine zJ (k:=53) (u:=qa false) O (by rw [hg5]) ?_
      have hg5':=xQ hg5
      exact BF O (BF O (BF O (BF O (BF O (BF O (st' (v:=(qa false)) (AN O O) O (oNl' (zS Pm (xP _)))))))))
    refine AL O ?_
    refine zg (FM:=[(4,(pP b1 0)),(5,(pP b2 0)),(6,(pP b3 0)),(7,(pP b4 0)),(8,(vI 0)),(9,(vI ((AF x y z).num.sign))),(47,(aG (AZ a))),(48,(aG (AZ b))),(49,(aG (AZ e))),(50,(vI ((AF x y p).num.sign))),(51,(vI ((AF x y z).num.sign))),(52,(qa (decide (((AF x y p).num.sign)=((AF x y z).num.sign))))),(53,(qa (decide (((AF x y p).num.sign)=((AF x y z).num.sign))))),(60,(qa ((decide (((AF x y p).num.sign)=((AF x y z).num.sign)))&&(decide (((AF y z p).num.sign)=((AF x y z).num.sign)))))),(61,(qa ((decide (((AF x y p).num.sign)=((AF x y z).num.sign)))&&(decide (((AF y z p).num.sign)=((AF x y z).num.sign)))))),(68,(qa (((decide (((AF x y p).num.sign)=((AF x y z).num.sign)))&&(decide (((AF y z p).num.sign)=((AF x y z).num.sign))))&&(decide (((AF z x p).num.sign)=((AF x y z).num.sign))))))]) (LM:=[AQ b4 86 (AZ e),AQ b3 86 (AZ d),AQ b2 86 (AZ b),AQ b1 86 (AZ a),AM a.x.z.n,AM a.x.m,AM a.y.z.n,AM a.y.m,AM b.x.z.n,AM b.x.m,AM b.y.z.n,AM b.y.m,AM d.x.z.n,AM d.x.m,AM d.y.z.n,AM d.y.m,AM e.x.z.n,AM e.x.m,AM e.y.z.n,AM e.y.m]) 7 ?_ ?_
    ·rcases xO ((decide (((AF x y p).num.sign)=((AF x y z).num.sign)))&&(decide (((AF y z p).num.sign)=((AF x y z).num.sign)))) with hg6|hg6
     ·refine zJ (k:=61) (u:=qa true) O (by rw [hg6]) ?_
      have hg6':=hg6
      simp only [jK] at hg6'
      exact BN (v:=(aG (AZ d))) O (AW (i:=1) (vs:=AZ d) O O Ap.a Ap.s O O) (BN (v:=(aG (AZ a))) O (AW (i:=3) (vs:=AZ a) O O Ap.a Ap.s O O) (BN (v:=(aG (AZ e))) O (AW (i:=0) (vs:=AZ e) O O Ap.a Ap.s O O) (zc (v:=(vI ((AF z x p).num.sign))) (AE O) (Ac (args:=[(aG (AZ d)),(aG (AZ a)),(aG (AZ e))]) O O call149) (λw hw=>FJ d a e Z w (inS hw 12 O ld) (inS hw 4 O la) (inS hw 16 O le)) O (leB O) (FV O (BN (v:=(qa (decide (((AF z x p).num.sign)=((AF x y z).num.sign))))) O (Az (c:=(decide (((AF z x p).num.sign)=((AF x y z).num.sign)))) O O O) (st' (v:=(qa (decide (((AF z x p).num.sign)=((AF x y z).num.sign))))) (ex_pick_true O O) O (oNl' (zS de (xP _)))))))))
     ·refine zJ (k:=61) (u:=qa false) O (by rw [hg6]) ?_
      have hg6':=hg6
      simp only [jK] at hg6'
      exact BF O (BF O (BF O (BF O (BF O (BF O (st' (v:=(qa false)) (AN O O) O (oNl' (zS de (xP _)))))))))
    refine oNl' (zB (sL [4,5,6,7,8,68] O) (zA ?_))
    refine zK O (λhc3=>?_) (λhc3=>?_)
    ·simp only [jK] at hc3
     exact q4 (asg' O (oNl' (zA (zF (zH (ret_one O (rd_tmp (v:=(vI 1)) O) (λw hw=>⟨by unfold F0;simp_all [vN];try (rw [if_neg (by grind)];rfl),hw.out⟩)))))))
    ·simp only [jK] at hc3
     exact zI (q2 (asg' O (oNl' (zA (zF (ret_one O (rd_tmp (v:=(vI 0)) O) (λw hw=>⟨by unfold F0;simp_all [vN];try (rw [if_neg (by grind)];rfl),hw.out⟩)))))))
end
structure FS where
  q:Rat
  f:FX q
def fP:PX ⟨0,0⟩:=⟨FX.zero,FX.zero⟩
theorem WI {S:Nat->Prop} {w:World}:Ro S w fP:=cL (Zc (bP LV) LV) (Zc (bP LV) LV)
section
section
variable {w0:Av} {S:Nat->Prop} {L:List As} {w:World} {ps:List Pt}
theorem VP {rs:List RP} {i:Nat} (hw:A6 w0 w L) (k:Nat) (hk:L.drop k=DE rs) (hi:i<rs.length) (ha:∀y∈DE rs,∀b,y.foot=some b->Nw w0 S b):Ro (SL w0 S L) w (rs.getD i Dv).x :=
  eR hw (λy hy=>List.mem_of_mem_drop (i:=k) (by rw [hk];exact hy)) hi ha
theorem Ms {ts:List T3} {ss:List Z3} {x:OG ps ts ss} (hw:A6 w0 w L) (i:Nat) (hi:(L.drop i).take 3=[x.a.row,x.b.row,x.c.row]) (k:Nat) (hk:L.drop k=DE x.rs) (ha:At w0 S x):Ro (SL w0 S L) w x :=
  X9 hw i hi (λy hy=>List.mem_of_mem_drop (i:=k) (by rw [hk];exact hy)) ha
theorem Mt {ts ss:List Z3} {x:Ji ps ts ss} (hw:A6 w0 w L) (i:Nat) (hi:(L.drop i).take 3=[x.a.row,x.b.row,x.c.row]) (k:Nat) (hs:∀y∈DE x.rs,y∈L.drop k) (ha:At w0 S x):Ro (SL w0 S L) w x :=
  cB hw i hi (λy hy=>List.mem_of_mem_drop (hs y hy)) ha
end
end
end Go.Proofs.YtcpkbjjmcleplaaGreatDoor
