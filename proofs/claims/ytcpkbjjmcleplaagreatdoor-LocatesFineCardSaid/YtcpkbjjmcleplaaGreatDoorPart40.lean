import Derived.Lib.ItoaLen
import Derived.Laws.IdiomStrings
import Derived.Laws.Strings
import Derived.Test.YtcpkbjjmcleplaaGreatDoorPart38
import Derived.Test.YtcpkbjjmcleplaaGreatDoorPart39
namespace Go.Proofs.YtcpkbjjmcleplaaGreatDoor
open Go Go.RowKit Go.Proofs.Tryz
open Go.Value renaming slice→qz,bool→qa
set_option linter.unusedVariables false
set_option linter.unusedSimpArgs false
section
def bP (l:List UInt8):List Value:=l.map λx=>Value.int .u8 (x.toNat:Int)
theorem LX (l:List UInt8):(bP l).length=l.length:=by simp [bP]
def PK (w : World) : Prop := Lib.TabIs Tryz.prog w "internal/strconv.uint64pow10" .u64 Lib.pow10Tab
theorem UF (zq:Nat) (hZ:zq=24) (b u:Nat) (T:TypeId) (w:World) (hb:w.heap[b]?=some (.cells (List.replicate zq (Value.int .u8 0)).toArray T (0,0))) (hu:u<18446744073709551616) :
    Calls prog 180 #[.slice (jk b) (Lib.nDigits u) 24,.int .u64 u] w λe w'=>e=.returned (.tuple #[])/\LK w w' (some b)/\∃o,w'.heap[b]?=some o/\GU 0 (bP (Lib.decDigits u)) o:=by
  have hnd:=Lib.nDigits_le20 u hu
  have hH:Go.Sort.Holds (λ(b:UInt8)=>Value.int .u8 (b.toNat:Int)) w b 0 (Array.replicate (Lib.nDigits u) (0:UInt8)):=λj hj=>by
    have hj':j<Lib.nDigits u:=by simpa using hj
    refine ⟨?_,by simp [World.frozen?,hb]⟩
    rw [cell_of_row w b _ _ T (0,0) hb,getElem!_pos _ j hj]
    simp [show j<zq by omega]
  have h:=Tryz.internal_strconv_formatBase10 b 0 24 u (Array.replicate (Lib.nDigits u) 0) w hH (by rw [Array.size_replicate];exact Lib.lt_pow_nDigits u) hu (by rw [Array.size_replicate];omega)
  rw [Array.size_replicate] at h
  refine h.mono ?_
  rintro e w' ⟨rfl,n,v',dk,rfl,hF⟩
  refine ⟨rfl,⟨⟨rfl,rfl,rfl,by simp [Go.Sort.putRow,Go.Sort.mapBlock],λk hk hne=>?_⟩,(by show w.drawn<=w.drawn+n;omega)⟩,_,(by simp only [World.heap_drewN,Go.Sort.putRow,Go.Sort.mapBlock,Array.getElem?_modify,hb,if_true,Option.map_some,Go.Sort.onCells]:_=some (.cells (Go.Sort.putCells (λ(b:UInt8)=>Value.int .u8 (b.toNat:Int)) 0 dk (List.replicate zq (Value.int .u8 0)).toArray) T (0,0))),_,T,(0,0),rfl,?_⟩
  · have:b≠k:=λe=>hne (by rw [e])
    simp [Go.Sort.putRow,Go.Sort.mapBlock,Array.getElem?_modify,this]
  · have hsz:dk.size=Lib.nDigits u:=hF.size
    rw [LX,Lib.decDigits_length]
    apply List.ext_getElem?
    intro j
    by_cases hj:j<Lib.nDigits u
    · have hjd:j<(Lib.decDigits u).length:=by rw [Lib.decDigits_length];exact hj
      rw [List.drop_zero,List.getElem?_take_of_lt hj,Array.getElem?_toList]
      have e1:=Lib.row_is_numeral hF j hjd
      simp only [bP,List.getElem?_map,xN hjd,e1,Option.map_some]
      simp [Go.Sort.putCells,hj,hsz,show j<zq by omega]
    · rw [List.getElem?_take_eq_none Z,List.getElem?_eq_none (by rw [LX,Lib.decDigits_length];omega)]
theorem WP (b u:Nat) (T:TypeId) (w:World) (hb:w.heap[b]?=some (.cells (List.replicate 24 (Value.int .u8 0)).toArray T (0,0))) (hu:u<18446744073709551616) :
    Calls prog 180 #[.slice (jk b) (Lib.nDigits u) 24,.int .u64 u] w λe w'=>e=.returned (.tuple #[])/\LK w w' (some b)/\∃o,w'.heap[b]?=some o/\GU 0 (bP (Lib.decDigits u)) o:=UF 24 rfl b u T w hb hu
theorem PK.below {w w':World} (h:PK w) (hb:GB w.heap.size w w'):PK w':=by
  unfold PK Lib.TabIs World.var? at *
  cases hg : Tryz.prog.globalNamed "internal/strconv.uint64pow10" with
  | none=>simp [hg] at h
  | some g =>
    simp only [hg,Option.bind_some] at h ⊢
    have hlt:g<w.heap.size:=by
      rcases Nat.lt_or_ge g w.heap.size with h'|h'
      · exact h'
      · rw [Array.getElem?_eq_none h'] at h;simp at h
    rw [hb.block g hlt]
    exact h
theorem Zu (u:Nat) (h1:1<=u) (h2:u<18446744073709551616) (w:World) (hT:PK w):Calls prog 179 #[vK .u64 u] w (Ac w (vN (Lib.nDigits u))) :=
  (Tryz.internal_strconv_numDigits u h1 h2 w hT).mono λe w' h=>⟨h.1,h.2▸GB.refl _ _⟩
theorem U8 (i:Nat) (h:i<100) (w:World):Calls prog 178 #[vN i] w (Ac w (.string (txB (Lib.decDigits i)))) :=
  (Tryz.internal_strconv_small i h w).mono λe w' h=>⟨h.1,h.2▸GB.refl _ _⟩
section
variable {ops:Array Oper} {rest:List Oper} {Q:Exit->Act->World->Prop} {n:Nat} {F:List (Nat×Value)} {w0:Ay} {L:List As} {t:TypeId} {p:String} {af:Array Edge} {d:Option Tmp} {g:Option (Nat×Bool)} {x:Operand}
theorem AP.callRow {P:Program} {o:Oper} {f:FuncId} {args:Array Value} {v:Value} (i:Nat) {b:Nat} {T:TypeId} {cs cs':List Value} (hw:Wt ops n F o)
    (he:∀a w,Cg n a F->A_ w0 w L->(execOp a.eval o).run P w=.ok (.enter f args) w) (hi:L[i]?=some (AO b T cs))
    (hc:∀w,A_ w0 w L->Calls P f args w λe w'=>e=.returned v/\LK w w' (some b)/\∃o,w'.heap[b]?=some o/\GU 0 cs' o)
    (hd:∀d,o.dst=some d->d<n) (next:AP P ops rest Q n (match o.dst with|some d=>(d,v)::F|none=>F) w0 (L.set i (AI (jk b) cs'))):AP P ops (o::rest) Q n F w0 L:=λa w ha hW=>by
  unfold wpList
  rw [if_pos (hw a ha)]
  left
  unfold Oper.wp
  rw [he a w ha hW,Oper.upon_enter]
  refine (hc w hW).mono ?_
  rintro e w' ⟨rfl,hg,o',hcell,hl⟩
  have hW':=hW.turn hi rfl rfl hg ⟨o',hcell,hl⟩ (y:=AI (jk b) cs')
  cases hdd:o.dst with
  | none=>rw [hdd] at next;exact next _ _ ha.put_none hW'
  | some d=>rw [hdd] at next;exact next _ _ (ha.put (hd d hdd)) hW'
theorem GI {P:Program} {tx e:TypeId} {b len k m:Nat} {ki:IntKind} {hi:Operand} (hx:evF F x=some (.pointer (jk b))) (hh:evF F hi=some (.int ki (m:Nat))) (hu:P.underlying tx=some (.array len e)) (hs:∀w,(sizeOf e).run P w=.ok k w) (hm:m<=len) (h0:0<len) :
    Ex P n F w0 L ⟨d,.slice tx x none (some hi) none,t,p,af,g⟩ (.slice (jk b) m len):=λA w ha _=>by
  have e1:¬len=0:=by omega
  simp [execOp,ha.ev hx,ha.ev hh,Instr.sliceAt,run_underlying hu,Instr.sureAddr,Instr.sliceBounds,Instr.sliceBound,asIntOf,hs,e1,hm,Addr.add_lit]
theorem ND {P:Program} {src dst e:TypeId} {b k:Nat} {cap m:Nat} {l:List UInt8} (hx:evF F x=some (.slice (jk b) m cap)) (hm:m=l.length) (hi:L[k]?=some (AI (jk b) (bP l))) (hs:P.underlying src=some (.slice e)) (he:P.underlying e=some (.int .u8)) (hd:P.underlying dst=some .string) :
    Ex P n F w0 L ⟨d,.convert src dst x,t,p,af,g⟩ (.string (txB l)):=λA w hf hW=>by
  subst hm
  have h:=run_convert_bytes_back (P:=P) w src dst e ⟨b,0,none⟩ cap l hs he hd (λj hj=>by
    obtain ⟨o,ho,hp⟩:=hW.holds hi b rfl
    rw [Addr.add_lit]
    exact GU.cell hp ho (by simp [bP,hj]))
  simp only [execOp,hf.ev hx,Sem.run_bind,h,Result.andThen_ok,Sem.run_pure]
  rfl
end
end
section
set_option maxRecDepth 100000
theorem P9 (n:Nat) (hn:n<18446744073709551616) (w:World) (hT:PK w):Calls prog 136 #[(vK .u64 n),(vI 10)] w (Ac w (Value.string (txB (Lib.decDigits n)))):=by
 have hnd:=Lib.nDigits_le20 n hn
 refine AV (args:=[(vK .u64 n),(vI 10)]) func136 O O (leB O) (zI (sL [0,1] O) (q4 (asg' O (oNl' (q1 (q4 (AK O (st' (Au (c:=true) O O jY) O (oNl' (zB (sL [0,1,4,10] O) (zA ?_)))))))))))
 refine zY O (zS (q4 (AK O (st' (Aa (c:=(decide (n<100))) O O (DE (a:=n) (b:=100))) O (oNl' (zB (sL [0,1,4,12] O) (zA ?_)))))))
 refine zK O (λhc1=>?_) (λhc1=>?_)
 ·replace hc1:=xR hc1
  exact q4 (AK O (st' (Al (c:=((n:Nat):Int)) O underlying52 underlying3 (B6 Z)) O (ck' call178 (U8 n Z) O (asg' O (oNl' (zB (sL [0,1,4] O) (zA (zF (zL (zL (ret_one O (rd_tmp (v:=(Value.string (txB (Lib.decDigits n)))) O) (λw hw=>⟨rfl,hw.out⟩))))))))))))
 ·replace hc1:=xQ hc1
  refine zG (q2 (al fi O λb1=>oNl' (q2 (AK O (CQ call179 (λw hw=>Zu n Z Z w (hT.below hw.out)) O (asg' O (q3 (sL [0,1,4,5,6] O) (AK O (st' (v:=(qz (jk b1) (Lib.nDigits n) 24)) (GI (len:=24) (m:=Lib.nDigits n) O O underlying257 sizeOf5 Z jY) O (AK O ?_))))))))))
  exact AP.callRow 0 (cs':=bP (Lib.decDigits n)) (v:=(Value.tuple #[])) (AG O) (Ag (args:=[(qz (jk b1) (Lib.nDigits n) 24),(vK .u64 n)]) O O call180) O (λw hw=>WP _ _ 257 w (hw.get (i:=0) O) hn) (λd hd=>by cases hd<;>exact (leB O)) (q3 (sL [0,1,4,5,6] O) (AK O (st' (v:=(qz (jk b1) (Lib.nDigits n) 24)) (GI (len:=24) (m:=Lib.nDigits n) O O underlying257 sizeOf5 Z jY) O (st' (v:=(Value.string (txB (Lib.decDigits n)))) (ND (k:=0) O (Lib.decDigits_length n).symm O underlying45 underlying5 underlying9) O (asg' O (oNl' (zB (sL [0,1,4,5,6] O) (zA (zF (zL (ret_one O (rd_tmp (v:=(Value.string (txB (Lib.decDigits n)))) O) (λw hw=>⟨rfl,hw.out⟩))))))))))))
theorem RT (n:Nat) (hn:n<18446744073709551616) (w:World) (hT:PK w):Calls prog 84 #[(vK .u64 n),(vI 10)] w (Ac w (Value.string (txB (Lib.decDigits n)))):=by
 refine AV (args:=[(vK .u64 n),(vI 10)]) func84 O O (leB O) (zI (sL [0,1] O) (q4 (asg' O (oNl' (q2 (AK O (AK O (CQ call136 (λw hw=>P9 n Z w (hT.below hw.out)) O (asg' O (oNl' (zB (sL [4] O) ?_)))))))))))
 exact zA (zF (ret_one O (rd_tmp (v:=(Value.string (txB (Lib.decDigits n)))) O) (λw hw=>⟨rfl,hw.out⟩)))
end

section
set_option maxRecDepth 100000
theorem SY (z:QD) (h:z.ok) (w:World) {S:Nat->Prop}  :Calls prog 53 #[(aG (Qw z))] w (Aj (FX (K9 z)) S w):=by
 obtain ⟨h1,h2,h3⟩:=h
 refine AV (args:=[(aG (Qw z))]) func53 O O (leB O) (zI (sL [0] O) (q4 (BH (cs:=Qw z) O λb1=>al Hz O λb2=>q3 (sL [1,2] O) (st' (v:=(pP b1 0)) (AA O underlying29 O sizeOf2 O) O (BL 1 (vI z.n) M6 O (st' (v:=(pP b1 1)) (AA O underlying29 O sizeOf27 O) O (BL 1 (vK .u32 z.d) ff O (st' (OU (c:=((max z.d 1:Nat):Int)) O O (by split<;>omega)) O (st' (Al (c:=((max z.d 1:Nat):Int)) O underlying27 underlying2 (B6 Z)) O ?_)))))))))
 exact cF (S:=S) (x:=(K9 z)) (args:=[(vI z.n),(vN (max z.d 1))]) call96 (λw hw=>(Aj.cast (T:=λi=>FX i) O (dF z.n ((max z.d 1:Nat):Int) Z Z Z Z w))) O O O λg1 lg1=>E7 O sizeOf84 O (oNl' (zB (sL [2] O) (zA (zF (ret_one O (Ab (i:=2) (cs:=fxL g1) O O isAgg84 sizeOf84 O) (λw hw=>DU (a:=(g1:FX (K9 z))) hw (inS hw 0 O lg1) O))))))
theorem Ga {r0:Rat} (x0:FX r0) {r1:Rat} (x1:FX r1):Instr.fill ([(0,3),(3,3)].toArray[·]?) ([(qa false),jj,jj,(qa false),jj,jj]).toArray [(0,.agg (fxL x0).toArray),(1,.agg (fxL x1).toArray)]=some (fxL x0++fxL x1).toArray:=by kernel_rfl
theorem Ix (p:PD) (h:p.ok) (w:World) {S:Nat->Prop}  :Calls prog 22 #[(aG (EI p))] w (Aj (PX (Ew p)) S w):=by
 have h1:=h.1
 have h2:=h.2
 refine AV (args:=[(aG (EI p))]) func22 O O (leB O) (zI (sL [0] O) (q4 (BH (cs:=EI p) O λb1=>al Ja O λb2=>q6 (sL [1,2] O) (B9 [(0,true),(1,true),(3,true),(4,true),(2,false),(5,false),(6,true),(7,false)] (sl sr) (Am (v:=(pP b1 0)) O (AA O underlying31 O sizeOf29 O) (Dz 0 (Qw p.x) av O (Am (v:=(pP b1 2)) O (AA O underlying31 O sizeOf29 O) (Dz 0 (Qw p.y) av O (zD O ?_)))))))))
 refine cF (S:=S) (x:=(K9 p.x)) (args:=[(aG (Qw p.x))]) call53 (λw hw=>SY p.x (by assumption) w) O O O λg1 lg1=>zC (sl (sl (sl sr))) (zD O (cF (S:=S) (x:=(K9 p.y)) (args:=[(aG (Qw p.y))]) call53 (λw hw=>SY p.y (by assumption) w) O O O λg2 lg2=>zC (sl (sl (sl (sl (sl sr))))) (Am (v:=(aG (fxL g1++fxL g2))) O (AS (zs:=[(qa false),jj,jj,(qa false),jj,jj]) (vs:=fxL g1++fxL g2) (pv:=[(0,(aG (fxL g1))),(1,(aG (fxL g2)))]) (places:=[(0,3),(3,3)]) zeroValue86 underlying86 (λw=>by simp [sizeOf84]) O (Ga g1 g2)) (zD O (Dt 4 (off:=0) (vs:=fxL g1++fxL g2) (cs':=fxL g1++fxL g2) (AG O) O sizeOf86 O (zC (sl (sl (sl (sl (sl sr))))) (zP (zB (sL [2] O) (zA ?_)))))))))
 exact zF (ret_one O (Ab (i:=4) (cs:=fxL g1++fxL g2) O O isAgg86 sizeOf86 O) (λw hw=>DU (a:=((PX.mk g1 g2:PX (⟨K9 p.x,K9 p.y⟩:Pt)):PX (Ew p))) hw (eX (inS hw 2 O lg1) (inS hw 0 O lg2)) O))
end
section
set_option maxRecDepth 100000
end
section
structure S3 (u v q:Rat) where
  b:Nat
  f:FX u
  g:FX v
  h:FX q
@[reducible] def S3.p {u v q:Rat} (a:S3 u v q):Option Addr:=some ⟨a.b,0,none⟩
def i_ {u v q:Rat} (a:S3 u v q):List Value:=fxL a.f++fxL a.g++fxL a.h
theorem S3.ok {u v q:Rat} (a:S3 u v q):BG a.p 3 3:=⟨(λe=>by cases e),(λc e=>by injection e with e;rw [<-e]),Nat.le_refl _⟩
def gC {u v q:Rat} (a:S3 u v q):List As:=[AI a.p (i_ a),AM a.f.z.n,AM a.f.m,AM a.g.z.n,AM a.g.m,AM a.h.z.n,AM a.h.m]
theorem Xg {u v q:Rat} (a:S3 u v q):∀y∈gC a,y.ro=true:=λy hy=>by
  simp only [gC,xL,List.not_mem_nil,or_false] at hy
  rcases hy with rfl|rfl|rfl|rfl|rfl|rfl|rfl<;>rfl
instance {u v q:Rat}:Cl (S3 u v q):=⟨λa=>.slice a.p 3 3,gC,Xg⟩
structure ij (u v q:Rat) where
  s:S3 u v q
instance {u v q:Rat}:Cl (ij u v q):=⟨λa=>.tuple #[.slice a.s.p 3 3,vI 0],λa=>gC a.s,λa=>Xg a.s⟩
section
variable {S:Nat->Prop} {w W:World} {w0:Ay} {L:List As} {u v q:Rat}
end
section
variable {P:Program} {ops:Array Oper} {rest:List Oper} {Q:Exit->Act->World->Prop} {n d:Nat} {F:List (Nat×Value)} {w0:Ay} {S:Nat->Prop} {L:List As} {t:TypeId} {p:String} {af:Array Edge} {y:Operand} {f:FuncId} {xs:List Operand} {args:List Value} {ts:Array TypeId}
end
end
section
set_option maxRecDepth 100000
def KF (a b c:Pt):Rat:=AF a b c/((2:Int):Rat)
theorem Vl:Sz ((2:Int):Rat)<=2:=IY jY jY
theorem Vi (a b c:Pt):Sz (KF a b c)<=4*BO a+2*BO b+2*BO c+7:=by
 have h1:=Er a b c
 have h2:=H6 (AF a b c) ((2:Int):Rat)
 have h3:=Vl
 exact xK h2 Z
theorem Q6 (a b c:Pt):((KF a b c).num.sign=0)=(AF a b c=0):=by
 have h2:((2:Int):Rat)≠0:=by decide +kernel
 rw [Int.sign_eq_zero_iff_zero,Rat.num_eq_zero]
 unfold KF
 refine propext ⟨λh=>?_,λh=>by rw [h,Rat.div_def,Rat.zero_mul]⟩
 have h3:AF a b c/((2:Int):Rat)*((2:Int):Rat)=AF a b c:=Rat.div_mul_cancel h2
 rw [<-h3,h,Rat.zero_mul]
theorem U2 {x y z:Pt} (a:PX x) (b:PX y) (d:PX z) (hs:BO x+BO y+BO z<=65536) (w:World) {S:Nat->Prop} (ha:Ro S w a) (hb:Ro S w b) (hd:Ro S w d)  :Calls prog 187 #[(aG (Ae a)),(aG (Ae b)),(aG (Ae d))] w (Aj (FX (KF x y z)) S w):=by
 have s2:=Vl
 have la:=Bx (W:=w) ha
 have lb:=Bx (W:=w) hb
 have ld:=Bx (W:=w) hd
 refine AZ (args:=[(aG (Ae a)),(aG (Ae b)),(aG (Ae d))]) (L:=[AM a.x.z.n,AM a.x.m,AM a.y.z.n,AM a.y.m,AM b.x.z.n,AM b.x.m,AM b.y.z.n,AM b.y.m,AM d.x.z.n,AM d.x.m,AM d.y.z.n,AM d.y.m]) func187 O O (leB O) (Fc ha (Fc hb (Fc hd Ao))) (zI (sL [0,1,2] O) (q4 (BH (cs:=Ae a) O λb1=>BH (cs:=Ae b) O λb2=>BH (cs:=Ae d) O λb3=>al Hz O λb4=>q6 (sL [3,4,5,6] O) (B9 [(0,true),(1,true),(3,true),(4,true),(2,false),(5,false),(6,false),(7,false),(8,false),(9,false)] (sl sr) (B3 1 Ar O (B3 2 Ar O (B3 0 Ar O ?_)))))))
 refine B3 2 Ar O (zD O ?_)
 have hz1:=Bo y x
 refine cP (S:=S) (x:=(y-x)) (args:=[(aG (Ae b)),(aG (Ae a))]) call108 (λw hw=>DD b a Z w (inS hw 8 O lb) (inS hw 4 O la)) O O O λg1 lg1=>zC (sl (sl (sl (sl (sl sr))))) (zD O ?_)
 have hz2:=Bo z x
 refine cP (S:=S) (x:=(z-x)) (args:=[(aG (Ae d)),(aG (Ae a))]) call108 (λw hw=>DD d a Z w (inS hw 16 O ld) (inS hw 8 O la)) O O O λg2 lg2=>zC (sl (sl (sl (sl (sl (sl (sl (sl (sl sr))))))))) (zD O ?_)
 have hz3:=FN (y-x) (z-x)
 refine cF (S:=S) (x:=(BI (y-x) (z-x))) (args:=[(aG (Ae g1)),(aG (Ae g2))]) call152 (λw hw=>HF g1 g2 Z w (inS hw 4 O lg1) (inS hw 0 O lg2)) O O O λg3 lg3=>zC (sl (sl (sl (sl (sl (sl (sl (sl (sl (sl (sl sr))))))))))) (zD O (cF (S:=S) (x:=(((2:Int):Int):Rat)) (args:=[(vI 2)]) call98 (λw hw=>IF (2:Int) Z Z w) O O O λg4 lg4=>zC (sl (sl (sl (sl (sl (sl (sl (sl (sl (sl (sl (sl (sl sr))))))))))))) (zD O ?_)))
 have hz4:=H6 (BI (y-x) (z-x)) (((2:Int):Int):Rat)
 exact cF (S:=S) (x:=((BI (y-x) (z-x))/(((2:Int):Int):Rat))) (args:=[(aG (fxL g3)),(aG (fxL g4))]) call101 (λw hw=>JQ g3 g4 (by (try simp only [BN]);omega) w (inS hw 2 O lg3) (inS hw 0 O lg4)) O O O λg5 lg5=>zC (sl (sl (sl (sl (sl (sl (sl (sl (sl (sl (sl (sl (sl (sl (sl sr))))))))))))))) (zD O (Dt 14 (off:=0) (vs:=fxL g5) (cs':=fxL g5) (AG O) O sizeOf84 O (zC (sl (sl (sl (sl (sl (sl (sl (sl (sl (sl (sl (sl (sl (sl (sl sr))))))))))))))) (zP (zB (sL [6] O) (zA (zF (ret_one O (Ab (i:=14) (cs:=fxL g5) O O isAgg84 sizeOf84 O) (λw hw=>DU (a:=(g5:FX (KF x y z))) hw (inS hw 0 O lg5) O)))))))))
theorem U3 {x y z:Pt} (a:PX x) (b:PX y) (d:PX z) (hs:BO x+BO y+BO z<=32768) (w:World) {S:Nat->Prop} (ha:Ro S w a) (hb:Ro S w b) (hd:Ro S w d)  :Calls prog 147 #[(aG (Ae a)),(aG (Ae b)),(aG (Ae d))] w (Ac w (qa (decide (AF x y z=0)))):=by
 have la:=Bx (W:=w) ha
 have lb:=Bx (W:=w) hb
 have ld:=Bx (W:=w) hd
 refine AZ (args:=[(aG (Ae a)),(aG (Ae b)),(aG (Ae d))]) (L:=[AM a.x.z.n,AM a.x.m,AM a.y.z.n,AM a.y.m,AM b.x.z.n,AM b.x.m,AM b.y.z.n,AM b.y.m,AM d.x.z.n,AM d.x.m,AM d.y.z.n,AM d.y.m]) func147 O O (leB O) (Fc ha (Fc hb (Fc hd Ao))) (zI (sL [0,1,2] O) (q4 (BH (cs:=Ae a) O λb1=>BH (cs:=Ae b) O λb2=>BH (cs:=Ae d) O λb3=>asg' O (q3 (sL [3,4,5,6] O) (Af 2 Ar O (Af 1 Ar O (Af 0 Ar O ?_)))))))
 have hz1:=Vi x y z
 exact cF (S:=S) (x:=(KF x y z)) (args:=[(aG (Ae a)),(aG (Ae b)),(aG (Ae d))]) call187 (λw hw=>U2 a b d Z w (inS hw 3 O la) (inS hw 7 O lb) (inS hw 11 O ld)) O O O λg1 lg1=>CQ call104 (λw hw=>Gd g1 w (inS hw 0 O lg1)) O (st' (Au (c:=(decide (((KF x y z).num.sign)=(0:Int)))) O O O) O (asg' O (oNl' (zB (sL [6] O) (zA (zF (ret_one O (rd_tmp (v:=(qa (decide (((KF x y z).num.sign)=(0:Int))))) O) (λw hw=>⟨by simp only [Q6],hw.out⟩))))))))
def GS (a b c p:Pt):Nat :=
 if AF a b c=0 then 0 else if (CW p a||CW p b||CW p c)=true then 3 else if (Dw a b p||Dw b c p||Dw c a p)=true then 2
 else if ((decide ((AF a b p).num.sign=(AF a b c).num.sign)&&decide ((AF b c p).num.sign=(AF a b c).num.sign))&&decide ((AF c a p).num.sign=(AF a b c).num.sign))=true then 1 else 0
theorem R5 {x y z p:Pt} (a:PX x) (b:PX y) (d:PX z) (e:PX p) (hs:BO x+BO y+BO z+BO p<=16384) (w:World) {S:Nat->Prop} (ha:Ro S w a) (hb:Ro S w b) (hd:Ro S w d) (he:Ro S w e)  :Calls prog 94 #[(aG (Ae a)),(aG (Ae b)),(aG (Ae d)),(aG (Ae e))] w (Ac w (vN (GS x y z p))):=by
 have la:=Bx (W:=w) ha
 have lb:=Bx (W:=w) hb
 have ld:=Bx (W:=w) hd
 have le:=Bx (W:=w) he
 refine AZ (args:=[(aG (Ae a)),(aG (Ae b)),(aG (Ae d)),(aG (Ae e))]) (L:=[AM a.x.z.n,AM a.x.m,AM a.y.z.n,AM a.y.m,AM b.x.z.n,AM b.x.m,AM b.y.z.n,AM b.y.m,AM d.x.z.n,AM d.x.m,AM d.y.z.n,AM d.y.m,AM e.x.z.n,AM e.x.m,AM e.y.z.n,AM e.y.m]) func94 O O (leB O) (Fc ha (Fc hb (Fc hd (Fc he Ao)))) (zI (sL [0,1,2,3] O) (q4 (BH (cs:=Ae a) O λb1=>BH (cs:=Ae b) O λb2=>BH (cs:=Ae d) O λb3=>BH (cs:=Ae e) O λb4=>asg' O (q6 (sL [4,5,6,7,8] O) (q4 (Af 3 Ar O (Af 2 Ar O ?_)))))))
 refine Af 1 Ar O (CQ call147 (λw hw=>U3 a b d Z w (inS hw 4 O la) (inS hw 8 O lb) (inS hw 12 O ld)) O (oNl' (zB (sL [4,5,6,7,8,13] O) (zA ?_))))
 refine zK O (λhc0=>?_) (λhc0=>?_)
 ·replace hc0:=xR hc0
  exact q4 (asg' O (oNl' (zA (zF (zL (ret_one O (rd_tmp (v:=(vI 0)) O) (λw hw=>⟨by unfold GS;simp_all [vN];try (rw [if_neg (by grind)];rfl),hw.out⟩)))))))
 ·replace hc0:=xQ hc0
  refine zG (q1 (q4 (Af 0 Ar O (Af 3 Ar O (CQ call54 (λw hw=>FF e a Z w (inS hw 16 O le) (inS hw 4 O la)) O (AK O ?_))))))
  refine zg (FM:=[(4,(pP b1 0)),(5,(pP b2 0)),(6,(pP b3 0)),(7,(pP b4 0)),(8,(vI 0)),(14,(aG (Ae e))),(15,(aG (Ae a))),(16,(qa (CW p x))),(17,(qa (CW p x))),(21,(qa ((CW p x)||(CW p y))))]) (LM:=[AO b4 86 (Ae e),AO b3 86 (Ae d),AO b2 86 (Ae b),AO b1 86 (Ae a),AM a.x.z.n,AM a.x.m,AM a.y.z.n,AM a.y.m,AM b.x.z.n,AM b.x.m,AM b.y.z.n,AM b.y.m,AM d.x.z.n,AM d.x.m,AM d.y.z.n,AM d.y.m,AM e.x.z.n,AM e.x.m,AM e.y.z.n,AM e.y.m]) 4 ?_ ?_
  ·rcases xO (CW p x) with hg1|hg1
   ·refine zN (k:=17) (u:=qa true) O (by rw [hg1]) ?_
    have hg1':=hg1
    skip
    exact BP O (BP O (BP O (st' (v:=(qa true)) (ex_pick_true O O) O (oNl' (zT CT (xP _))))))
   ·refine zN (k:=17) (u:=qa false) O (by rw [hg1]) ?_
    have hg1':=hg1
    skip
    exact BV (v:=(aG (Ae e))) O (AY (i:=0) (vs:=Ae e) O O Ar.a Ar.s O O) (BV (v:=(aG (Ae b))) O (AY (i:=2) (vs:=Ae b) O O Ar.a Ar.s O O) (zd (v:=(qa (CW p y))) (AE O) (Ag (args:=[(aG (Ae e)),(aG (Ae b))]) O O call54) (λw hw=>FF e b Z w (inS hw 16 O le) (inS hw 8 O lb)) O (leB O) (st' (v:=(qa (CW p y))) (AN O O) O (oNl' (zT CT (xP _))))))
  refine AK O ?_
  refine zg (FM:=[(4,(pP b1 0)),(5,(pP b2 0)),(6,(pP b3 0)),(7,(pP b4 0)),(8,(vI 0)),(14,(aG (Ae e))),(15,(aG (Ae a))),(16,(qa (CW p x))),(17,(qa (CW p x))),(21,(qa ((CW p x)||(CW p y)))),(22,(qa ((CW p x)||(CW p y)))),(26,(qa (((CW p x)||(CW p y))||(CW p z))))]) (LM:=[AO b4 86 (Ae e),AO b3 86 (Ae d),AO b2 86 (Ae b),AO b1 86 (Ae a),AM a.x.z.n,AM a.x.m,AM a.y.z.n,AM a.y.m,AM b.x.z.n,AM b.x.m,AM b.y.z.n,AM b.y.m,AM d.x.z.n,AM d.x.m,AM d.y.z.n,AM d.y.m,AM e.x.z.n,AM e.x.m,AM e.y.z.n,AM e.y.m]) 4 ?_ ?_
  ·rcases xO ((CW p x)||(CW p y)) with hg2|hg2
   ·refine zN (k:=22) (u:=qa true) O (by rw [hg2]) ?_
    have hg2':=hg2
    simp only [jK] at hg2'
    exact BP O (BP O (BP O (st' (v:=(qa true)) (ex_pick_true O O) O (oNl' (zT IQ (xP _))))))
   ·refine zN (k:=22) (u:=qa false) O (by rw [hg2]) ?_
    have hg2':=hg2
    simp only [jK] at hg2'
    exact BV (v:=(aG (Ae e))) O (AY (i:=0) (vs:=Ae e) O O Ar.a Ar.s O O) (BV (v:=(aG (Ae d))) O (AY (i:=1) (vs:=Ae d) O O Ar.a Ar.s O O) (zd (v:=(qa (CW p z))) (AE O) (Ag (args:=[(aG (Ae e)),(aG (Ae d))]) O O call54) (λw hw=>FF e d Z w (inS hw 16 O le) (inS hw 12 O ld)) O (leB O) (st' (v:=(qa (CW p z))) (AN O O) O (oNl' (zT IQ (xP _))))))
  refine oNl' (zB (sL [4,5,6,7,8,26] O) (zA ?_))
  refine zK O (λhc1=>?_) (λhc1=>?_)
  ·simp only [jK] at hc1
   exact q4 (asg' O (oNl' (zA (zF (zL (ret_one O (rd_tmp (v:=(vI 3)) O) (λw hw=>⟨by unfold GS;simp_all [vN];try (rw [if_neg (by grind)];rfl),hw.out⟩)))))))
  ·simp only [jK] at hc1
   refine zG (q1 (q4 (Af 3 Ar O (Af 2 Ar O (Af 0 Ar O (CQ call148 (λw hw=>Fq a b e Z w (inS hw 4 O la) (inS hw 8 O lb) (inS hw 16 O le)) O (AK O ?_)))))))
   refine zg (FM:=[(4,(pP b1 0)),(5,(pP b2 0)),(6,(pP b3 0)),(7,(pP b4 0)),(8,(vI 0)),(27,(aG (Ae a))),(28,(aG (Ae b))),(29,(aG (Ae e))),(30,(qa (Dw x y p))),(31,(qa (Dw x y p))),(36,(qa ((Dw x y p)||(Dw y z p))))]) (LM:=[AO b4 86 (Ae e),AO b3 86 (Ae d),AO b2 86 (Ae b),AO b1 86 (Ae a),AM a.x.z.n,AM a.x.m,AM a.y.z.n,AM a.y.m,AM b.x.z.n,AM b.x.m,AM b.y.z.n,AM b.y.m,AM d.x.z.n,AM d.x.m,AM d.y.z.n,AM d.y.m,AM e.x.z.n,AM e.x.m,AM e.y.z.n,AM e.y.m]) 5 ?_ ?_
   ·rcases xO (Dw x y p) with hg3|hg3
    ·refine zN (k:=31) (u:=qa true) O (by rw [hg3]) ?_
     have hg3':=hg3
     skip
     exact BP O (BP O (BP O (BP O (st' (v:=(qa true)) (ex_pick_true O O) O (oNl' (zT Qq (xP _)))))))
    ·refine zN (k:=31) (u:=qa false) O (by rw [hg3]) ?_
     have hg3':=hg3
     skip
     exact BV (v:=(aG (Ae b))) O (AY (i:=2) (vs:=Ae b) O O Ar.a Ar.s O O) (BV (v:=(aG (Ae d))) O (AY (i:=1) (vs:=Ae d) O O Ar.a Ar.s O O) (BV (v:=(aG (Ae e))) O (AY (i:=0) (vs:=Ae e) O O Ar.a Ar.s O O) (zd (v:=(qa (Dw y z p))) (AE O) (Ag (args:=[(aG (Ae b)),(aG (Ae d)),(aG (Ae e))]) O O call148) (λw hw=>Fq b d e Z w (inS hw 8 O lb) (inS hw 12 O ld) (inS hw 16 O le)) O (leB O) (st' (v:=(qa (Dw y z p))) (AN O O) O (oNl' (zT Qq (xP _)))))))
   refine AK O ?_
   refine zg (FM:=[(4,(pP b1 0)),(5,(pP b2 0)),(6,(pP b3 0)),(7,(pP b4 0)),(8,(vI 0)),(27,(aG (Ae a))),(28,(aG (Ae b))),(29,(aG (Ae e))),(30,(qa (Dw x y p))),(31,(qa (Dw x y p))),(36,(qa ((Dw x y p)||(Dw y z p)))),(37,(qa ((Dw x y p)||(Dw y z p)))),(42,(qa (((Dw x y p)||(Dw y z p))||(Dw z x p))))]) (LM:=[AO b4 86 (Ae e),AO b3 86 (Ae d),AO b2 86 (Ae b),AO b1 86 (Ae a),AM a.x.z.n,AM a.x.m,AM a.y.z.n,AM a.y.m,AM b.x.z.n,AM b.x.m,AM b.y.z.n,AM b.y.m,AM d.x.z.n,AM d.x.m,AM d.y.z.n,AM d.y.m,AM e.x.z.n,AM e.x.m,AM e.y.z.n,AM e.y.m]) 5 ?_ ?_
   ·rcases xO ((Dw x y p)||(Dw y z p)) with hg4|hg4
    ·refine zN (k:=37) (u:=qa true) O (by rw [hg4]) ?_
     have hg4':=hg4
     simp only [jK] at hg4'
     exact BP O (BP O (BP O (BP O (st' (v:=(qa true)) (ex_pick_true O O) O (oNl' (zT Qr (xP _)))))))
    ·refine zN (k:=37) (u:=qa false) O (by rw [hg4]) ?_
     have hg4':=hg4
     simp only [jK] at hg4'
     exact BV (v:=(aG (Ae d))) O (AY (i:=1) (vs:=Ae d) O O Ar.a Ar.s O O) (BV (v:=(aG (Ae a))) O (AY (i:=3) (vs:=Ae a) O O Ar.a Ar.s O O) (BV (v:=(aG (Ae e))) O (AY (i:=0) (vs:=Ae e) O O Ar.a Ar.s O O) (zd (v:=(qa (Dw z x p))) (AE O) (Ag (args:=[(aG (Ae d)),(aG (Ae a)),(aG (Ae e))]) O O call148) (λw hw=>Fq d a e Z w (inS hw 12 O ld) (inS hw 4 O la) (inS hw 16 O le)) O (leB O) (st' (v:=(qa (Dw z x p))) (AN O O) O (oNl' (zT Qr (xP _)))))))
   refine oNl' (zB (sL [4,5,6,7,8,42] O) (zA ?_))
   refine zK O (λhc2=>?_) (λhc2=>?_)
   ·simp only [jK] at hc2
    exact q4 (asg' O (oNl' (zA (zF (zL (ret_one O (rd_tmp (v:=(vI 2)) O) (λw hw=>⟨by unfold GS;simp_all [vN];try (rw [if_neg (by grind)];rfl),hw.out⟩)))))))
   ·simp only [jK] at hc2
    refine zG (q2 (Af 3 Ar O (Af 2 Ar O (Af 1 Ar O (CQ call149 (λw hw=>Fw a b d Z w (inS hw 4 O la) (inS hw 8 O lb) (inS hw 12 O ld)) O (asg' O (q6 (sL [4,5,6,7,8,9] O) (q4 (Af 3 Ar O (Af 2 Ar O (Af 0 Ar O ?_)))))))))))
    refine CQ call149 (λw hw=>Fw a b e Z w (inS hw 4 O la) (inS hw 8 O lb) (inS hw 16 O le)) O (AK O (st' (Au (c:=(decide (((AF x y p).num.sign)=((AF x y z).num.sign)))) O O O) O (AK O ?_)))
    refine zg (FM:=[(4,(pP b1 0)),(5,(pP b2 0)),(6,(pP b3 0)),(7,(pP b4 0)),(8,(vI 0)),(9,(vI ((AF x y z).num.sign))),(47,(aG (Ae a))),(48,(aG (Ae b))),(49,(aG (Ae e))),(50,(vI ((AF x y p).num.sign))),(51,(vI ((AF x y z).num.sign))),(52,(qa (decide (((AF x y p).num.sign)=((AF x y z).num.sign))))),(53,(qa (decide (((AF x y p).num.sign)=((AF x y z).num.sign))))),(60,(qa ((decide (((AF x y p).num.sign)=((AF x y z).num.sign)))&&(decide (((AF y z p).num.sign)=((AF x y z).num.sign))))))]) (LM:=[AO b4 86 (Ae e),AO b3 86 (Ae d),AO b2 86 (Ae b),AO b1 86 (Ae a),AM a.x.z.n,AM a.x.m,AM a.y.z.n,AM a.y.m,AM b.x.z.n,AM b.x.m,AM b.y.z.n,AM b.y.m,AM d.x.z.n,AM d.x.m,AM d.y.z.n,AM d.y.m,AM e.x.z.n,AM e.x.m,AM e.y.z.n,AM e.y.m]) 7 ?_ ?_
    ·rcases xO (decide (((AF x y p).num.sign)=((AF x y z).num.sign))) with hg5|hg5
     ·refine zN (k:=53) (u:=qa true) O (by rw [hg5]) ?_
      have hg5':=xR hg5
      exact BV (v:=(aG (Ae b))) O (AY (i:=2) (vs:=Ae b) O O Ar.a Ar.s O O) (BV (v:=(aG (Ae d))) O (AY (i:=1) (vs:=Ae d) O O Ar.a Ar.s O O) (BV (v:=(aG (Ae e))) O (AY (i:=0) (vs:=Ae e) O O Ar.a Ar.s O O) (zd (v:=(vI ((AF y z p).num.sign))) (AE O) (Ag (args:=[(aG (Ae b)),(aG (Ae d)),(aG (Ae e))]) O O call149) (λw hw=>Fw b d e Z w (inS hw 8 O lb) (inS hw 12 O ld) (inS hw 16 O le)) O (leB O) (FR O (BV (v:=(qa (decide (((AF y z p).num.sign)=((AF x y z).num.sign))))) O (Au (c:=(decide (((AF y z p).num.sign)=((AF x y z).num.sign)))) O O O) (st' (v:=(qa (decide (((AF y z p).num.sign)=((AF x y z).num.sign))))) (ex_pick_true O O) O (oNl' (zT Qs (xP _)))))))))
     ·refine zN (k:=53) (u:=qa false) O (by rw [hg5]) ?_
      have hg5':=xQ hg5
      exact BP O (BP O (BP O (BP O (BP O (BP O (st' (v:=(qa false)) (AN O O) O (oNl' (zT Qs (xP _)))))))))
    refine AK O ?_
    refine zg (FM:=[(4,(pP b1 0)),(5,(pP b2 0)),(6,(pP b3 0)),(7,(pP b4 0)),(8,(vI 0)),(9,(vI ((AF x y z).num.sign))),(47,(aG (Ae a))),(48,(aG (Ae b))),(49,(aG (Ae e))),(50,(vI ((AF x y p).num.sign))),(51,(vI ((AF x y z).num.sign))),(52,(qa (decide (((AF x y p).num.sign)=((AF x y z).num.sign))))),(53,(qa (decide (((AF x y p).num.sign)=((AF x y z).num.sign))))),(60,(qa ((decide (((AF x y p).num.sign)=((AF x y z).num.sign)))&&(decide (((AF y z p).num.sign)=((AF x y z).num.sign)))))),(61,(qa ((decide (((AF x y p).num.sign)=((AF x y z).num.sign)))&&(decide (((AF y z p).num.sign)=((AF x y z).num.sign)))))),(68,(qa (((decide (((AF x y p).num.sign)=((AF x y z).num.sign)))&&(decide (((AF y z p).num.sign)=((AF x y z).num.sign))))&&(decide (((AF z x p).num.sign)=((AF x y z).num.sign))))))]) (LM:=[AO b4 86 (Ae e),AO b3 86 (Ae d),AO b2 86 (Ae b),AO b1 86 (Ae a),AM a.x.z.n,AM a.x.m,AM a.y.z.n,AM a.y.m,AM b.x.z.n,AM b.x.m,AM b.y.z.n,AM b.y.m,AM d.x.z.n,AM d.x.m,AM d.y.z.n,AM d.y.m,AM e.x.z.n,AM e.x.m,AM e.y.z.n,AM e.y.m]) 7 ?_ ?_
    ·rcases xO ((decide (((AF x y p).num.sign)=((AF x y z).num.sign)))&&(decide (((AF y z p).num.sign)=((AF x y z).num.sign)))) with hg6|hg6
     ·refine zN (k:=61) (u:=qa true) O (by rw [hg6]) ?_
      have hg6':=hg6
      simp only [jK] at hg6'
      exact BV (v:=(aG (Ae d))) O (AY (i:=1) (vs:=Ae d) O O Ar.a Ar.s O O) (BV (v:=(aG (Ae a))) O (AY (i:=3) (vs:=Ae a) O O Ar.a Ar.s O O) (BV (v:=(aG (Ae e))) O (AY (i:=0) (vs:=Ae e) O O Ar.a Ar.s O O) (zd (v:=(vI ((AF z x p).num.sign))) (AE O) (Ag (args:=[(aG (Ae d)),(aG (Ae a)),(aG (Ae e))]) O O call149) (λw hw=>Fw d a e Z w (inS hw 12 O ld) (inS hw 4 O la) (inS hw 16 O le)) O (leB O) (FR O (BV (v:=(qa (decide (((AF z x p).num.sign)=((AF x y z).num.sign))))) O (Au (c:=(decide (((AF z x p).num.sign)=((AF x y z).num.sign)))) O O O) (st' (v:=(qa (decide (((AF z x p).num.sign)=((AF x y z).num.sign))))) (ex_pick_true O O) O (oNl' (zT fv (xP _)))))))))
     ·refine zN (k:=61) (u:=qa false) O (by rw [hg6]) ?_
      have hg6':=hg6
      simp only [jK] at hg6'
      exact BP O (BP O (BP O (BP O (BP O (BP O (st' (v:=(qa false)) (AN O O) O (oNl' (zT fv (xP _)))))))))
    refine oNl' (zB (sL [4,5,6,7,8,68] O) (zA ?_))
    refine zK O (λhc3=>?_) (λhc3=>?_)
    ·simp only [jK] at hc3
     exact q4 (asg' O (oNl' (zA (zF (zL (ret_one O (rd_tmp (v:=(vI 1)) O) (λw hw=>⟨by unfold GS;simp_all [vN];try (rw [if_neg (by grind)];rfl),hw.out⟩)))))))
    ·simp only [jK] at hc3
     exact zG (q2 (asg' O (oNl' (zA (zF (ret_one O (rd_tmp (v:=(vI 0)) O) (λw hw=>⟨by unfold GS;simp_all [vN];try (rw [if_neg (by grind)];rfl),hw.out⟩)))))))
end
structure FS where
  q:Rat
  f:FX q
def iM:PX ⟨0,0⟩:=⟨FX.zero,FX.zero⟩
theorem Xb {S:Nat->Prop} {w:World}:Ro S w iM:=eX (bU (dx MT) MT) (bU (dx MT) MT)
section
section
variable {w0:Ay} {S:Nat->Prop} {L:List As} {w:World} {ps:List Pt}
theorem Wa {rs:List RP} {i:Nat} (hw:A_ w0 w L) (k:Nat) (hk:L.drop k=DJ rs) (hi:i<rs.length) (ha:∀y∈DJ rs,∀b,y.foot=some b->Nw w0 S b):Ro (SL w0 S L) w (rs.getD i EP).x :=
  gZ hw (λy hy=>List.mem_of_mem_drop (i:=k) (by rw [hk];exact hy)) hi ha
theorem Nm {ts:List T3} {ss:List Z3} {x:PJ ps ts ss} (hw:A_ w0 w L) (i:Nat) (hi:(L.drop i).take 3=[x.a.row,x.b.row,x.c.row]) (k:Nat) (hk:L.drop k=DJ x.rs) (ha:At w0 S x):Ro (SL w0 S L) w x :=
  Za hw i hi (λy hy=>List.mem_of_mem_drop (i:=k) (by rw [hk];exact hy)) ha
theorem QA {ts ss:List Z3} {x:Ku ps ts ss} (hw:A_ w0 w L) (i:Nat) (hi:(L.drop i).take 3=[x.a.row,x.b.row,x.c.row]) (k:Nat) (hs:∀y∈DJ x.rs,y∈L.drop k) (ha:At w0 S x):Ro (SL w0 S L) w x :=
  eN hw i hi (λy hy=>List.mem_of_mem_drop (hs y hy)) ha
end
end
end Go.Proofs.YtcpkbjjmcleplaaGreatDoor
