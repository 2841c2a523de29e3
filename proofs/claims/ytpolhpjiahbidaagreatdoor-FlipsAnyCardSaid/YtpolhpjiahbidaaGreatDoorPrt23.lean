import Derived.Lib.ItoaLen
import Derived.Laws.IdiomStrings
import Derived.Laws.Strings
import Derived.Test.YtpolhpjiahbidaaGreatDoorPrt21
import Derived.Test.YtpolhpjiahbidaaGreatDoorPrt22
namespace Go.Proofs.YtpolhpjiahbidaaGreatDoor
open Go Go.RowKit Go.Proofs.Tryz
open Go.Value renaming slice→qz,bool→qa
set_option linter.unusedVariables false
set_option linter.unusedSimpArgs false
section
def aI (l:List UInt8):List Value:=l.map λx=>Value.int .u8 (x.toNat:Int)
theorem Kl (l:List UInt8):(aI l).length=l.length:=by simp [aI]
def Kh (w : World) : Prop := Lib.TabIs Tryz.prog w "internal/strconv.uint64pow10" .u64 Lib.pow10Tab
theorem TV (zq:Nat) (hZ:zq=24) (b u:Nat) (T:TypeId) (w:World) (hb:w.heap[b]?=some (.cells (List.replicate zq (Value.int .u8 0)).toArray T (0,0))) (hu:u<18446744073709551616) :
    Calls prog 264 #[.slice (jk b) (Lib.nDigits u) 24,.int .u64 u] w λe w'=>e=.returned (.tuple #[])/\Jf w w' (some b)/\∃o,w'.heap[b]?=some o/\Gx 0 (aI (Lib.decDigits u)) o:=by
  have hnd:=Lib.nDigits_le20 u hu
  have hH:Go.Sort.Holds (λ(b:UInt8)=>Value.int .u8 (b.toNat:Int)) w b 0 (Array.replicate (Lib.nDigits u) (0:UInt8)):=λj hj=>by
    have hj':j<Lib.nDigits u:=by simpa using hj
    refine ⟨?_,by simp [World.frozen?,hb]⟩
    rw [cell_of_row w b _ _ T (0,0) hb,getElem!_pos _ j hj]
    simp [show j<zq by omega]
  have h:=Tryz.internal_strconv_formatBase10 b 0 24 u (Array.replicate (Lib.nDigits u) 0) w hH (by rw [Array.size_replicate];exact Lib.lt_pow_nDigits u) hu (by rw [Array.size_replicate];omega)
  rw [Array.size_replicate] at h
  refine h.mono ?_
  rintro e w' ⟨rfl,n,v',dk,rfl,hF⟩
  refine ⟨rfl,⟨⟨rfl,rfl,rfl,by simp [Go.Sort.putRow,Go.Sort.mapBlock],λk hk hne=>?_⟩,(by show w.drawn<=w.drawn+n;omega)⟩,_,(by simp only [World.heap_drewN,Go.Sort.putRow,Go.Sort.mapBlock,Array.getElem?_modify,hb,if_true,Option.map_some,Go.Sort.onCells]:_=some (.cells (Go.Sort.putCells (λ(b:UInt8)=>Value.int .u8 (b.toNat:Int)) 0 dk (List.replicate zq (Value.int .u8 0)).toArray) T (0,0))),_,T,(0,0),rfl,?_⟩
  · have:b≠k:=λe=>hne (by rw [e])
    simp [Go.Sort.putRow,Go.Sort.mapBlock,Array.getElem?_modify,this]
  · have hsz:dk.size=Lib.nDigits u:=hF.size
    rw [Kl,Lib.decDigits_length]
    apply List.ext_getElem?
    intro j
    by_cases hj:j<Lib.nDigits u
    · have hjd:j<(Lib.decDigits u).length:=by rw [Lib.decDigits_length];exact hj
      rw [List.drop_zero,List.getElem?_take_of_lt hj,Array.getElem?_toList]
      have e1:=Lib.row_is_numeral hF j hjd
      simp only [aI,List.getElem?_map,xN hjd,e1,Option.map_some]
      simp [Go.Sort.putCells,hj,hsz,show j<zq by omega]
    · rw [List.getElem?_take_eq_none Z,List.getElem?_eq_none (by rw [Kl,Lib.decDigits_length];omega)]
theorem V1 (b u:Nat) (T:TypeId) (w:World) (hb:w.heap[b]?=some (.cells (List.replicate 24 (Value.int .u8 0)).toArray T (0,0))) (hu:u<18446744073709551616) :
    Calls prog 264 #[.slice (jk b) (Lib.nDigits u) 24,.int .u64 u] w λe w'=>e=.returned (.tuple #[])/\Jf w w' (some b)/\∃o,w'.heap[b]?=some o/\Gx 0 (aI (Lib.decDigits u)) o:=TV 24 rfl b u T w hb hu
theorem Kh.below {w w':World} (h:Kh w) (hb:Hu w.heap.size w w'):Kh w':=by
  unfold Kh Lib.TabIs World.var? at *
  cases hg : Tryz.prog.globalNamed "internal/strconv.uint64pow10" with
  | none=>simp [hg] at h
  | some g =>
    simp only [hg,Option.bind_some] at h ⊢
    have hlt:g<w.heap.size:=by
      rcases Nat.lt_or_ge g w.heap.size with h'|h'
      · exact h'
      · rw [Array.getElem?_eq_none h'] at h;simp at h
    rw [hb.block g hlt]
    exact h
theorem ZH (u:Nat) (h1:1<=u) (h2:u<18446744073709551616) (w:World) (hT:Kh w):Calls prog 263 #[vK .u64 u] w (AX w (vN (Lib.nDigits u))) :=
  (Tryz.internal_strconv_numDigits u h1 h2 w hT).mono λe w' h=>⟨h.1,h.2▸Hu.refl _ _⟩
theorem UN (i:Nat) (h:i<100) (w:World):Calls prog 262 #[vN i] w (AX w (.string (txB (Lib.decDigits i)))) :=
  (Tryz.internal_strconv_small i h w).mono λe w' h=>⟨h.1,h.2▸Hu.refl _ _⟩
section
variable {ops:Array Oper} {rest:List Oper} {Q:Exit->Act->World->Prop} {n:Nat} {F:List (Nat×Value)} {w0:BA} {L:List As} {t:TypeId} {p:String} {af:Array Edge} {d:Option Tmp} {g:Option (Nat×Bool)} {x:Operand}
theorem AQ.callRow {P:Program} {o:Oper} {f:FuncId} {args:Array Value} {v:Value} (i:Nat) {b:Nat} {T:TypeId} {cs cs':List Value} (hw:Wt ops n F o)
    (he:∀a w,C8 n a F->BE w0 w L->(execOp a.eval o).run P w=.ok (.enter f args) w) (hi:L[i]?=some (AU b T cs))
    (hc:∀w,BE w0 w L->Calls P f args w λe w'=>e=.returned v/\Jf w w' (some b)/\∃o,w'.heap[b]?=some o/\Gx 0 cs' o)
    (hd:∀d,o.dst=some d->d<n) (next:AQ P ops rest Q n (match o.dst with|some d=>(d,v)::F|none=>F) w0 (L.set i (AC (jk b) cs'))):AQ P ops (o::rest) Q n F w0 L:=λa w ha hW=>by
  unfold wpList
  rw [if_pos (hw a ha)]
  left
  unfold Oper.wp
  rw [he a w ha hW,Oper.upon_enter]
  refine (hc w hW).mono ?_
  rintro e w' ⟨rfl,hg,o',hcell,hl⟩
  have hW':=hW.turn hi rfl rfl hg ⟨o',hcell,hl⟩ (y:=AC (jk b) cs')
  cases hdd:o.dst with
  | none=>rw [hdd] at next;exact next _ _ ha.put_none hW'
  | some d=>rw [hdd] at next;exact next _ _ (ha.put (hd d hdd)) hW'
theorem Fv {P:Program} {tx e:TypeId} {b len k m:Nat} {ki:IntKind} {hi:Operand} (hx:evF F x=some (.pointer (jk b))) (hh:evF F hi=some (.int ki (m:Nat))) (hu:P.underlying tx=some (.array len e)) (hs:∀w,(sizeOf e).run P w=.ok k w) (hm:m<=len) (h0:0<len) :
    Ex P n F w0 L ⟨d,.slice tx x none (some hi) none,t,p,af,g⟩ (.slice (jk b) m len):=λA w ha _=>by
  have e1:¬len=0:=by omega
  simp [execOp,ha.ev hx,ha.ev hh,Instr.sliceAt,run_underlying hu,Instr.sureAddr,Instr.sliceBounds,Instr.sliceBound,asIntOf,hs,e1,hm,Addr.add_lit]
theorem MJ {P:Program} {src dst e:TypeId} {b k:Nat} {cap m:Nat} {l:List UInt8} (hx:evF F x=some (.slice (jk b) m cap)) (hm:m=l.length) (hi:L[k]?=some (AC (jk b) (aI l))) (hs:P.underlying src=some (.slice e)) (he:P.underlying e=some (.int .u8)) (hd:P.underlying dst=some .string) :
    Ex P n F w0 L ⟨d,.convert src dst x,t,p,af,g⟩ (.string (txB l)):=λA w hf hW=>by
  subst hm
  have h:=run_convert_bytes_back (P:=P) w src dst e ⟨b,0,none⟩ cap l hs he hd (λj hj=>by
    obtain ⟨o,ho,hp⟩:=hW.holds hi b rfl
    rw [Addr.add_lit]
    exact Gx.cell hp ho (by simp [aI,hj]))
  simp only [execOp,hf.ev hx,Sem.run_bind,h,Result.andThen_ok,Sem.run_pure]
  rfl
end
end
section
set_option maxRecDepth 100000
theorem PL (n:Nat) (hn:n<18446744073709551616) (w:World) (hT:Kh w):Calls prog 230 #[(vK .u64 n),(vI 10)] w (AX w (Value.string (txB (Lib.decDigits n)))):=by
 have hnd:=Lib.nDigits_le20 n hn
 refine AS (args:=[(vK .u64 n),(vI 10)]) func230 O O (leB O) (zM (sL [0,1] O) (q4 (asg' O (oNl' (q1 (q4 (AJ O (st' (A9 (c:=true) O O jY) O (oNl' (zF (sL [0,1,4,10] O) (zC ?_)))))))))))
 refine zZ O (zf (q4 (AJ O (st' (AW (c:=(decide (n<100))) O O (B_ (a:=n) (b:=100))) O (oNl' (zF (sL [0,1,4,12] O) (zC ?_)))))))
 refine zO O (λhc1=>?_) (λhc1=>?_)
 ·replace hc1:=xR hc1
  exact q4 (AJ O (st' (A6 (c:=((n:Nat):Int)) O underlying69 underlying3 (Ec Z)) O (ck' call262 (UN n Z) O (asg' O (oNl' (zF (sL [0,1,4] O) (zC (zH (zI (zI (ret_one O (rd_tmp (v:=(Value.string (txB (Lib.decDigits n)))) O) (λw hw=>⟨rfl,hw.out⟩))))))))))))
 ·replace hc1:=xQ hc1
  refine zJ (q2 (al eY O λb1=>oNl' (q2 (AJ O (Bx call263 (λw hw=>ZH n Z Z w (hT.below hw.out)) O (asg' O (q3 (sL [0,1,4,5,6] O) (AJ O (st' (v:=(qz (jk b1) (Lib.nDigits n) 24)) (Fv (len:=24) (m:=Lib.nDigits n) O O underlying331 sizeOf5 Z jY) O (AJ O ?_))))))))))
  exact AQ.callRow 0 (cs':=aI (Lib.decDigits n)) (v:=(Value.tuple #[])) (AM O) (Ak (args:=[(qz (jk b1) (Lib.nDigits n) 24),(vK .u64 n)]) O O call264) O (λw hw=>V1 _ _ 331 w (hw.get (i:=0) O) hn) (λd hd=>by cases hd<;>exact (leB O)) (q3 (sL [0,1,4,5,6] O) (AJ O (st' (v:=(qz (jk b1) (Lib.nDigits n) 24)) (Fv (len:=24) (m:=Lib.nDigits n) O O underlying331 sizeOf5 Z jY) O (st' (v:=(Value.string (txB (Lib.decDigits n)))) (MJ (k:=0) O (Lib.decDigits_length n).symm O underlying86 underlying5 underlying9) O (asg' O (oNl' (zF (sL [0,1,4,5,6] O) (zC (zH (zI (ret_one O (rd_tmp (v:=(Value.string (txB (Lib.decDigits n)))) O) (λw hw=>⟨rfl,hw.out⟩))))))))))))
theorem LE (n:Nat) (hn:n<18446744073709551616) (w:World) (hT:Kh w):Calls prog 186 #[(vK .u64 n),(vI 10)] w (AX w (Value.string (txB (Lib.decDigits n)))):=by
 refine AS (args:=[(vK .u64 n),(vI 10)]) func186 O O (leB O) (zM (sL [0,1] O) (q4 (asg' O (oNl' (q2 (AJ O (AJ O (Bx call230 (λw hw=>PL n Z w (hT.below hw.out)) O (asg' O (oNl' (zF (sL [4] O) ?_)))))))))))
 exact zC (zH (ret_one O (rd_tmp (v:=(Value.string (txB (Lib.decDigits n)))) O) (λw hw=>⟨rfl,hw.out⟩)))
end
theorem Hr {k:Nat} (h:k<10):(UInt8.ofNat (48+k)).toNat=48+k:=by
  rw [UInt8.toNat_ofNat']
  exact Nat.mod_eq_of_lt Z
theorem Vj:∀(u:Nat) {c:UInt8},c∈Lib.decDigits u->48<=c.toNat/\c.toNat<=57:=λu=>by
  induction u using Nat.strongRecOn with
  | _ u ih =>
    intro c hc
    by_cases h:u<10
    · rw [Lib.decDigits,dif_pos h,xz] at hc
      subst hc
      rw [Hr h];omega
    · rw [Lib.decDigits,dif_neg h] at hc
      rcases List.mem_append.1 hc with hc|hc
      · exact ih _ Z hc
      · rcases xz.1 hc with rfl
        rw [Hr (Nat.mod_lt _ jY)];omega
def vD (l:List UInt8):Nat:=l.foldl (λa c=>a*10+(c.toNat-48)) 0
theorem Xy (u:Nat):vD (Lib.decDigits u)=u:=by
  induction u using Nat.strongRecOn with
  | _ u ih =>
    by_cases h:u<10
    · rw [Lib.decDigits,dif_pos h]
      show 0*10+((UInt8.ofNat (48+u)).toNat-48)=u
      rw [Hr h];omega
    · rw [Lib.decDigits,dif_neg h]
      have h1:=ih (u/10) Z
      unfold vD at h1 ⊢
      rw [List.foldl_append,h1]
      show u/10*10+((UInt8.ofNat (48+u%10)).toNat-48)=u
      rw [Hr (Nat.mod_lt _ jY)];omega
theorem Nm {u v:Nat} (h:Lib.decDigits u=Lib.decDigits v):u=v:=by rw [<-Xy u,h,Xy]
theorem Oy (u:Nat) (l:List UInt8):Lib.decDigits u≠45::l:=λh=>by
  have:=(Vj u (c:=45) (by rw [h];exact List.mem_cons_self)).1
  exact absurd this jY
theorem Zv {y z:Int} (h:txI y=txI z):y=z:=by
  unfold txI at h
  split at h<;>split at h
  · injection h with _ h
    have:=Nm h;omega
  · exact absurd h.symm (Oy _ _)
  · exact absurd h (Oy _ _)
  · have:=Nm h;omega
theorem ON (z:Int):∀c∈txI z,(c != 47)=true:=λc hc=>by
  have key:∀u,c∈Lib.decDigits u->(c != 47)=true:=λu hu=>by
    have h1:=(Vj u hu).1
    rw [bne_iff_ne]
    rintro rfl
    exact absurd h1 jY
  unfold txI at hc
  split at hc
  · rcases xy.1 hc with rfl|hc
    · decide
    · exact key _ hc
  · exact key _ hc
theorem P4 (q:Rat):(KA q).takeWhile (· != 47)=txI q.num:=by
  unfold KA
  split
  · have h:=List.takeWhile_append_of_pos (l₂:=[]) (ON q.num)
    simpa using h
  · rw [List.takeWhile_append_of_pos (ON q.num)]
    simp
theorem P3 (q:Rat):(KA q).dropWhile (· != 47)=if q.den-1=0 then [] else 47::Lib.decDigits q.den:=by
  unfold KA
  split
  · have h:=List.dropWhile_append_of_pos (l₂:=[]) (ON q.num)
    simpa using h
  · rw [List.dropWhile_append_of_pos (ON q.num)]
    simp
theorem Zz {q r:Rat} (h:KA q=KA r):q=r:=by
  have h1:txI q.num=txI r.num:=by rw [<-P4,h,P4]
  have h2:=P3 q
  rw [h,P3] at h2
  have hq:=q.den_pos
  have hr:=r.den_pos
  refine Rat.ext (Zv h1) ?_
  split at h2<;>split at h2
  · omega
  · cases h2
  · cases h2
  · injection h2 with _ h2
    exact (Nm h2).symm
theorem Zu (a b:List UInt8):((txB a).toList == (txB b).toList)=(a == b):=by
  rw [ByteArray.toList_eq,ByteArray.toList_eq];rfl
theorem Zy (q r:Rat):((txB (KA q)).toList == (txB (KA r)).toList)=decide (q=r):=by
  rw [Zu]
  by_cases h:q=r
  · rw [h];simp
  · rw [xq h,beq_eq_false_iff_ne]
    exact λk=>h (Zz k)
section
set_option maxRecDepth 100000
theorem Nn {n:Nat} (h:n<18446744073709551616):(Lib.decDigits n).length<=20:=by rw [Lib.decDigits_length];exact Lib.nDigits_le20 n h
theorem Zw {z:Int} (h:z.natAbs<18446744073709551616):(txI z).length<=21:=by
 have:=Nn h
 unfold txI;split<;>simp<;>omega
theorem JN (n:Nat) (hn:n<18446744073709551616) (w:World) (hT:Kh w):Calls prog 132 #[(aG (AT n))] w (AX w (Value.string (txB (Lib.decDigits n)))):=by
 refine AS (args:=[(aG (AT n))]) func132 O O (leB O) (zM (sL [0] O) (q4 (BG (cs:=AT n) O λb1=>asg' O (q6 (sL [1,2] O) (q4 (st' (v:=(pP b1 1)) (AA O underlying71 O sizeOf9 O) O (A_ 0 (Value.string (Bs n)) UV O (st' (BY (c:=(decide (n<18446744073709551616))) O O Cd) O (oNl' (zF (sL [1,2,10] O) ?_))))))))))
 refine zC ?_
 refine zO O (λhc0=>?_) (λhc0=>?_)
 ·replace hc0:=xR hc0
  exact q4 (st' (v:=(pP b1 0)) (AA O underlying71 O sizeOf69 O) O (A_ 0 (vK .u64 (B7 n)) Gz O (zK (k:=12) (u:=(vK .u64 n)) O (by rw [Bm Z]) (Bx call186 (λw hw=>LE n Z w (hT.below hw.out)) O (asg' O (oNl' (zF (sL [1,2] O) (zC (zH (zI (ret_one O (rd_tmp (v:=(Value.string (txB (Lib.decDigits n)))) O) (λw hw=>⟨rfl,hw.out⟩))))))))))))
 ·replace hc0:=xQ hc0
  exfalso;omega
theorem M2 (z:Int) (hz:z.natAbs<18446744073709551616) (w:World) (hT:Kh w):Calls prog 131 #[(aG (A7 z))] w (AX w (Value.string (txB (txI z)))):=by
 have hl:=Nn hz
 refine AS (args:=[(aG (A7 z))]) func131 O O (leB O) (zM (sL [0] O) (q4 (BG (cs:=A7 z) O λb1=>asg' O (q6 (sL [1,2] O) (q4 (st' (v:=(pP b1 2)) (AA O underlying75 O sizeOf4 O) O (A_ 0 (qa (decide (z<0))) Kc O (oNl' (zF (sL [1,2,4] O) (zC ?_))))))))))
 refine zO O (λhc0=>?_) (λhc0=>?_)
 ·replace hc0:=xR hc0
  have he:txI z=45::Lib.decDigits z.natAbs:=by unfold txI;rw [if_pos hc0]
  exact q4 (st' (v:=(pP b1 0)) (AA O underlying75 O sizeOf73 O) O (st' (v:=(pP b1 0)) (AA O underlying73 O sizeOf71 O) O (C9 0 (AT z.natAbs) B3 O (Bx call132 (λw hw=>JN z.natAbs Z w (hT.below hw.out)) O (st' (v:=(Value.string (txB (45::Lib.decDigits z.natAbs)))) (Bw (r:=(txB (45::Lib.decDigits z.natAbs))) O O (by rw [CG];show 1+_<=_;omega) (Cj [45] _)) O (asg' O (oNl' (zF (sL [1,2] O) (zC (zH (zI (ret_one O (rd_tmp (v:=(Value.string (txB (45::Lib.decDigits z.natAbs)))) O) (λw hw=>⟨by rw [he],hw.out⟩)))))))))))))
 ·replace hc0:=xQ hc0
  have he:txI z=Lib.decDigits z.natAbs:=by unfold txI;rw [if_neg hc0]
  exact zJ (q2 (st' (v:=(pP b1 0)) (AA O underlying75 O sizeOf73 O) O (st' (v:=(pP b1 0)) (AA O underlying73 O sizeOf71 O) O (C9 0 (AT z.natAbs) B3 O (Bx call132 (λw hw=>JN z.natAbs Z w (hT.below hw.out)) O (asg' O (oNl' (zF (sL [1,2] O) (zC (zH (ret_one O (rd_tmp (v:=(Value.string (txB (Lib.decDigits z.natAbs)))) O) (λw hw=>⟨by rw [he],hw.out⟩))))))))))))
theorem JE (q:Rat) (hn:q.num.natAbs<18446744073709551616) (hd:q.den<18446744073709551616) (w:World) (hT:Kh w):Calls prog 77 #[(aG (AG q))] w (AX w (Value.string (txB (KA q)))):=by
 have hl1:=Zw hn
 have hl2:=Nn hd
 have hdn:nw q.den<=1099511627776:=xx (CJ.2 (show q.den<4294967296^2 from hd)) jY
 refine AS (args:=[(aG (AG q))]) func77 O O (leB O) (zM (sL [0] O) (q4 (BG (cs:=AG q) O λb1=>asg' O (q6 (sL [1,2] O) (q4 (An 0 Bj O (ck' call130 (GD q) O (oNl' (zF (sL [1,2,4] O) (zC ?_))))))))))
 refine zO O (λhc0=>?_) (λhc0=>?_)
 ·replace hc0:=xR hc0
  have he:KA q=txI q.num:=by unfold KA;rw [if_pos hc0]
  exact q4 (st' (v:=(pP b1 0)) (AA O underlying77 O sizeOf75 O) O (C9 0 (A7 q.num) DK O (Bx call131 (λw hw=>M2 q.num Z w (hT.below hw.out)) O (asg' O (oNl' (zF (sL [1,2] O) (zC (zH (zI (ret_one O (rd_tmp (v:=(Value.string (txB (txI q.num)))) O) (λw hw=>⟨by rw [he],hw.out⟩)))))))))))
 ·replace hc0:=xQ hc0
  have he:KA q=txI q.num++[47]++Lib.decDigits q.den:=by unfold KA;rw [if_neg hc0,List.append_assoc];rfl
  refine zJ (q1 (CE [(0,true),(1,true),(4,true),(2,false),(3,true),(5,false),(6,false),(7,true),(8,true)] sr (Ag (v:=(pP b1 0)) O (AA O underlying77 O sizeOf75 O) (Ef 0 (A7 q.num) DK O (C3 0 Bj O (zL O (Bx call131 (λw hw=>M2 q.num Z w (hT.below hw.out)) O (zG sr (Ag (v:=(Value.string (txB (txI q.num++[47])))) O (Bw (r:=(txB (txI q.num++[47]))) O O (by rw [CG];show _+1<=_;omega) (Cj _ [47])) (zL O (ck' call133 (den_ok q Z) O ?_)))))))))))
  exact zG sr (zL O (Bx call132 (λw hw=>JN q.den Z w (hT.below hw.out)) O (zG sr (Ag (v:=(Value.string (txB (txI q.num++[47]++Lib.decDigits q.den)))) O (Bw (r:=(txB (txI q.num++[47]++Lib.decDigits q.den))) O O (by rw [CG,CG,xw,List.length_singleton];omega) (Cj _ _)) (pS' O (zT (zF (sL [1,2] O) (zC (zH (ret_one O (rd_tmp (v:=(Value.string (txB (txI q.num++[47]++Lib.decDigits q.den)))) O) (λw hw=>⟨by rw [he],hw.out⟩)))))))))))
def FW (q:Rat):Prop:=q.num.natAbs<18446744073709551616/\q.den<18446744073709551616
def PW (p:Pt):Prop:=FW p.x/\FW p.y
theorem bN {n:Int} {k:Nat} (hk:k≠0) (hn:n.natAbs<18446744073709551616) (hk2:k<18446744073709551616):FW ((n:Rat)/((k:Int):Rat)):=by
 have e:(n:Rat)/((k:Int):Rat)=mkRat n k:=by
  rw [<-Rat.divInt_eq_div];rfl
 rw [e,Rat.mkRat_def,dif_neg hk]
 refine ⟨Nat.lt_of_le_of_lt ?_ hn,Nat.lt_of_le_of_lt ?_ hk2⟩
 ·rw [Rat.normalize_eq]
  show (n/((n.natAbs.gcd k:Nat):Int)).natAbs<=_
  rw [Int.natAbs_ediv_of_dvd (Int.ofNat_dvd_left.2 (Nat.gcd_dvd_left _ _))]
  exact Nat.div_le_self _ _
 ·rw [Rat.normalize_eq]
  exact Nat.div_le_self _ _
theorem V4 {q:QD} (h:q.ok):FW (Lh q):=by
 obtain ⟨h1,h2,h3⟩:=h
 exact bN Z Z Z
theorem ZV {p:PD} (h:p.ok):PW (HH p):=⟨V4 h.1,V4 h.2⟩
theorem Na (q:Rat) {r:Rat} (b:FX r) (hs:FW q) (hr:Sz r<=16777216) (w:World) {S:Nat->Prop} (hb:Ro S w b) (hT:Kh w):Calls prog 30 #[(aG (AG q)),(aG (fxL b))] w (AX w (qa (decide (q=r)))):=by
 obtain ⟨hs1,hs2⟩:=hs
 have lb:=Bq (W:=w) hb
 refine AR (args:=[(aG (AG q)),(aG (fxL b))]) (L:=[BM b.z.n,BM b.m]) func30 O O (leB O) (OH hb Ae) (zM (sL [0,1] O) (q4 (BG (cs:=AG q) O λb1=>BG (cs:=fxL b) O λb2=>asg' O (q6 (sL [2,3,4] O) (CE [(0,true),(2,true),(1,false),(3,false),(4,true),(5,true)] sr (C3 1 Bj O (C3 0 B9 O (zL O (Bx call77 (λw hw=>JE q Z Z w (hT.below hw.out)) O ?_)))))))))
 exact zG sr (zL O (Bx call87 (λw hw=>Pj b Z w (inS hw 2 O lb)) O (zG sr (Ag O (BY (c:=(decide (q=r))) O O (Zy _ _)) (pS' O (zT (zF (sL [4] O) (zC (zH (ret_one O (rd_tmp (v:=(qa (decide (q=r)))) O) (λw hw=>⟨rfl,hw.out⟩)))))))))))
theorem W6 (p q:Pt):decide (p=q)=(decide (p.x=q.x)&&decide (p.y=q.y)):=by
 rw [Bool.eq_iff_iff]
 simp only [xZ,xT]
 exact ⟨λh=>by rw [h];exact ⟨rfl,rfl⟩,λh=>Pt.ext h.1 h.2⟩
theorem ao (p:Pt) {q:Pt} (b:PX q) (hs:PW p) (hr:BV q<=16777216) (w:World) {S:Nat->Prop} (hb:Ro S w b) (hT:Kh w):Calls prog 49 #[(aG (Ad p)),(aG (BU b))] w (AX w (qa (decide (p=q)))):=by
 obtain ⟨hs1,hs2⟩:=hs
 have gx:=Cp q
 have gy:=Cq q
 have lb:=Bq (W:=w) hb
 refine AR (args:=[(aG (Ad p)),(aG (BU b))]) (L:=[BM b.x.z.n,BM b.x.m,BM b.y.z.n,BM b.y.m]) func49 O O (leB O) (Kb hb Ae) (zM (sL [0,1] O) (q4 (BG (cs:=Ad p) O λb1=>BG (cs:=BU b) O λb2=>asg' O (q6 (sL [2,3,4] O) ?_))))
 by_cases hx:p.x=q.x
 ·refine zQ (st' (v:=(pP b1 0)) (AA O underlying99 O sizeOf77 O) O (C9 1 (AG p.x) Bj O (st' (v:=(pP b2 0)) (AA O underlying121 O sizeOf83 O) O (C9 0 (fxL b.x) B9 O (Bx (args:=[(aG (AG p.x)),(aG (fxL b.x))]) (v:=(qa true)) call30 (λw hw=>(by have h9:=Na p.x b.x (by assumption) Z w (UL (inS hw 2 O lb)) (hT.below hw.out);rw [xr hx] at h9;exact h9)) O (AJ O (Au (v:=(pP b1 5)) O (AA O underlying99 O sizeOf77 O) (Au (v:=(aG (AG p.y))) O (Ac (i:=1) (vs:=AG p.y) O O Bj.a Bj.s O O) (Au (v:=(pP b2 3)) O (AA O underlying121 O sizeOf83 O) (Au (v:=(aG (fxL b.y))) O (Ac (i:=0) (vs:=fxL b.y) O O B9.a B9.s O O) (zj (v:=(qa (decide (p.y=q.y)))) (AN O) (Ak (args:=[(aG (AG p.y)),(aG (fxL b.y))]) O O call30) (λw hw=>Na p.y b.y (by assumption) Z w (Um (inS hw 2 O lb)) (hT.below hw.out)) O (leB O) ?_)))))))))))
  exact st' (v:=(qa (decide (p.y=q.y)))) (ex_pick_true O O) O (asg' O (oNl' (zF (sL [4] O) (zC (zH (ret_one O (rd_tmp (v:=(qa (decide (p.y=q.y)))) O) (λw hw=>⟨by rw [W6];simp [hx],hw.out⟩)))))))
 ·refine zQ (st' (v:=(pP b1 0)) (AA O underlying99 O sizeOf77 O) O (C9 1 (AG p.x) Bj O (st' (v:=(pP b2 0)) (AA O underlying121 O sizeOf83 O) O (C9 0 (fxL b.x) B9 O (Bx (args:=[(aG (AG p.x)),(aG (fxL b.x))]) (v:=(qa false)) call30 (λw hw=>(by have h9:=Na p.x b.x (by assumption) Z w (UL (inS hw 2 O lb)) (hT.below hw.out);rw [xq hx] at h9;exact h9)) O (AJ O (Aw O (Aw O (Aw O (Aw O (Aw O ?_)))))))))))
  exact st' (v:=(qa false)) (AI O O) O (asg' O (oNl' (zF (sL [4] O) (zC (zH (ret_one O (rd_tmp (v:=(qa false)) O) (λw hw=>⟨by rw [W6];simp [hx],hw.out⟩)))))))
end
section
set_option maxRecDepth 100000
theorem eP:ElemT prog 36 121 6 112:=⟨underlying36,Ds jV⟩
def Eh (q:QD):Bool:=decide (-1000000<=q.n)&&(decide (q.n<=1000000)&&decide (q.d<=1000000))
def JG (r:RW):Bool:=decide (24<r.ds.length)||(decide (24<r.ts.length)||(decide (60<r.ss.length)||r.ds.any λd=>!(Eh d.x&&Eh d.y)))
theorem V7 {r:RW} (h:JG r=false):r.ds.length<=24/\r.ts.length<=24/\r.ss.length<=60:=by
 unfold JG at h
 simp only [xW,xS] at h
 omega
theorem V6 {r:RW} {i:Nat} (hi:i<r.ds.length) (h:(!Eh (r.ds.getD i Ff).x||!Eh (r.ds.getD i Ff).y)=true):JG r=true:=by
 unfold JG
 have:(r.ds.any λd=>!(Eh d.x&&Eh d.y))=true:=List.any_eq_true.2 ⟨_,List.getElem_mem hi,by
  rw [List.getD,xN hi] at h
  simpa using h⟩
 rw [this];simp
theorem TX {r:RW} (h:24<r.ds.length\/24<r.ts.length\/60<r.ss.length):JG r=true:=by
 unfold JG
 rcases h with h|h|h<;>simp [h]
theorem TY {r:RW} (h:¬(24<r.ds.length\/24<r.ts.length\/60<r.ss.length)) (hs:∀i,i<r.ds.length->(Eh (r.ds.getD i Ff).x&&Eh (r.ds.getD i Ff).y)=true):JG r=false:=by
 unfold JG
 have:(r.ds.any λd=>!(Eh d.x&&Eh d.y))=false:=by
  rw [List.any_eq_false]
  intro d hd
  obtain ⟨i,hi,rfl⟩:=List.getElem_of_mem hd
  have:=hs i hi
  rw [List.getD,xN hi] at this
  simpa using this
 rw [this]
 simp only [xW,xS]
 exact ⟨Z,Z,Z,trivial⟩
theorem RW.pw (r:RW) (i:Nat) (h:i<r.ps.length):PW (r.ps.getD i ⟨0,0⟩):=by
 rw [r.pl] at h
 rw [W5 r h]
 exact ZV (r.ok h)
theorem NL (q:QD) (w:World)  :Calls prog 41 #[(aG (Ir q))] w (AX w (qa (Eh q))):=by
 refine AS (args:=[(aG (Ir q))]) func41 O O (leB O) (zM (sL [0] O) (q4 (BG (cs:=Ir q) O λb1=>asg' O (q3 (sL [1,2] O) (st' (v:=(pP b1 0)) (AA O underlying94 O sizeOf2 O) O (A_ 0 (vI q.n) e8 O (st' (CU (c:=(decide ((-1000000:Int)<=q.n))) O O O) O (AJ O ?_))))))))
 refine zg (FM:=[(1,(pP b1 0)),(2,(qa false)),(3,(pP b1 0)),(4,(vI q.n)),(5,(qa (decide ((-1000000:Int)<=q.n)))),(6,(qa (decide ((-1000000:Int)<=q.n)))),(10,(qa ((decide ((-1000000:Int)<=q.n))&&(decide (q.n<=(1000000:Int))))))]) (LM:=[AU b1 94 (Ir q)]) 4 ?_ ?_
 ·rcases xO (decide ((-1000000:Int)<=q.n)) with hg1|hg1
  ·refine zK (k:=6) (u:=qa true) O (by rw [hg1]) ?_
   have hg1':=xR hg1
   exact Au (v:=(pP b1 0)) O (AA O underlying94 O sizeOf2 O) (Au (v:=(vI q.n)) O (AE (i:=0) (v:=(vI q.n)) O O e8.a O) (Au (v:=(qa (decide (q.n<=(1000000:Int))))) O (Ee (c:=(decide (q.n<=(1000000:Int)))) O O O) (st' (v:=(qa (decide (q.n<=(1000000:Int))))) (ex_pick_true O O) O (oNl' (zS Bi (xP _))))))
  ·refine zK (k:=6) (u:=qa false) O (by rw [hg1]) ?_
   have hg1':=xQ hg1
   exact Aw O (Aw O (Aw O (st' (v:=(qa false)) (AI O O) O (oNl' (zS Bi (xP _))))))
 refine AJ O ?_
 refine zg (FM:=[(1,(pP b1 0)),(2,(qa false)),(3,(pP b1 0)),(4,(vI q.n)),(5,(qa (decide ((-1000000:Int)<=q.n)))),(6,(qa (decide ((-1000000:Int)<=q.n)))),(10,(qa ((decide ((-1000000:Int)<=q.n))&&(decide (q.n<=(1000000:Int)))))),(11,(qa ((decide ((-1000000:Int)<=q.n))&&(decide (q.n<=(1000000:Int)))))),(15,(qa (((decide ((-1000000:Int)<=q.n))&&(decide (q.n<=(1000000:Int))))&&(decide (q.d<=1000000)))))]) (LM:=[AU b1 94 (Ir q)]) 4 ?_ ?_
 ·rcases xO ((decide ((-1000000:Int)<=q.n))&&(decide (q.n<=(1000000:Int)))) with hg2|hg2
  ·refine zK (k:=11) (u:=qa true) O (by rw [hg2]) ?_
   have hg2':=hg2
   simp only [jK] at hg2'
   exact Au (v:=(pP b1 1)) O (AA O underlying94 O sizeOf92 O) (Au (v:=(vK .u32 q.d)) O (AE (i:=0) (v:=(vK .u32 q.d)) O O ch.a O) (Au (v:=(qa (decide (q.d<=1000000)))) O (Ee (c:=(decide (q.d<=1000000))) O O (Qz (a:=q.d) (b:=1000000))) (st' (v:=(qa (decide (q.d<=1000000)))) (ex_pick_true O O) O (oNl' (zS EW (xP _))))))
  ·refine zK (k:=11) (u:=qa false) O (by rw [hg2]) ?_
   have hg2':=hg2
   simp only [jK] at hg2'
   exact Aw O (Aw O (Aw O (st' (v:=(qa false)) (AI O O) O (oNl' (zS EW (xP _))))))
 exact asg' O (oNl' (zF (sL [2] O) (zC (zH (ret_one O (rd_tmp (v:=(qa (((decide ((-1000000:Int)<=q.n))&&(decide (q.n<=(1000000:Int))))&&(decide (q.d<=1000000))))) O) (λw hw=>⟨by unfold Eh;simp [Bool.and_assoc],hw.out⟩))))))
theorem U0 (r:RW) (w:World) {S:Nat->Prop} (hr:Ro S w r):Calls prog 8 #[(aG (FN r))] w (AX w (qa (JG r))):=by
 have lr:=Bq (W:=w) hr
 refine AR (args:=[(aG (FN r))]) (L:=[AC r.a.p (rowsL F0 r.ds),AC r.b.p (rowsL Af r.ts),AC r.c.p (rowsL Af r.ss)]) func8 O O (leB O) (C7 hr Ae) (zM (sL [0] O) (q4 (BG (cs:=FN r) O λb1=>asg' O (q6 (sL [1,2] O) (q4 (st' (v:=(pP b1 0)) (AA O underlying26 O sizeOf22 O) O (A_ 0 (qz r.a.p r.ds.length r.a.c) Pz O (st' (v:=(vN r.ds.length)) (AD O underlying22) O (st' (B2 (c:=(decide (24<r.ds.length))) O O (B_ (a:=24) (b:=r.ds.length))) O (AJ O ?_))))))))))
 refine zg (FM:=[(1,(pP b1 0)),(2,(qa false)),(4,(pP b1 0)),(5,(qz r.a.p r.ds.length r.a.c)),(6,(vN r.ds.length)),(7,(qa (decide (24<r.ds.length)))),(8,(qa (decide (24<r.ds.length)))),(13,(qa ((decide (24<r.ds.length))||(decide (24<r.ts.length)))))]) (LM:=[AU b1 26 (FN r),AC r.a.p (rowsL F0 r.ds),AC r.b.p (rowsL Af r.ts),AC r.c.p (rowsL Af r.ss)]) 5 ?_ ?_
 ·rcases xO (decide (24<r.ds.length)) with hg1|hg1
  ·refine zK (k:=8) (u:=qa true) O (by rw [hg1]) ?_
   have hg1':=xR hg1
   exact Aw O (Aw O (Aw O (Aw O (st' (v:=(qa true)) (ex_pick_true O O) O (oNl' (zS Bi (xP _)))))))
  ·refine zK (k:=8) (u:=qa false) O (by rw [hg1]) ?_
   have hg1':=xQ hg1
   exact Au (v:=(pP b1 1)) O (AA O underlying26 O sizeOf23 O) (Au (v:=(qz r.b.p r.ts.length r.b.c)) O (AE (i:=0) (v:=(qz r.b.p r.ts.length r.b.c)) O O CQ.a O) (Au (v:=(vN r.ts.length)) O (AD O underlying23) (Au (v:=(qa (decide (24<r.ts.length)))) O (B2 (c:=(decide (24<r.ts.length))) O O (B_ (a:=24) (b:=r.ts.length))) (st' (v:=(qa (decide (24<r.ts.length)))) (AI O O) O (oNl' (zS Bi (xP _)))))))
 refine AJ O ?_
 refine zg (FM:=[(1,(pP b1 0)),(2,(qa false)),(4,(pP b1 0)),(5,(qz r.a.p r.ds.length r.a.c)),(6,(vN r.ds.length)),(7,(qa (decide (24<r.ds.length)))),(8,(qa (decide (24<r.ds.length)))),(13,(qa ((decide (24<r.ds.length))||(decide (24<r.ts.length))))),(14,(qa ((decide (24<r.ds.length))||(decide (24<r.ts.length))))),(19,(qa (((decide (24<r.ds.length))||(decide (24<r.ts.length)))||(decide (60<r.ss.length)))))]) (LM:=[AU b1 26 (FN r),AC r.a.p (rowsL F0 r.ds),AC r.b.p (rowsL Af r.ts),AC r.c.p (rowsL Af r.ss)]) 5 ?_ ?_
 ·rcases xO ((decide (24<r.ds.length))||(decide (24<r.ts.length))) with hg2|hg2
  ·refine zK (k:=14) (u:=qa true) O (by rw [hg2]) ?_
   have hg2':=hg2
   simp only [jK] at hg2'
   exact Aw O (Aw O (Aw O (Aw O (st' (v:=(qa true)) (ex_pick_true O O) O (oNl' (zS EW (xP _)))))))
  ·refine zK (k:=14) (u:=qa false) O (by rw [hg2]) ?_
   have hg2':=hg2
   simp only [jK] at hg2'
   exact Au (v:=(pP b1 2)) O (AA O underlying26 O sizeOf24 O) (Au (v:=(qz r.c.p r.ss.length r.c.c)) O (AE (i:=0) (v:=(qz r.c.p r.ss.length r.c.c)) O O GS.a O) (Au (v:=(vN r.ss.length)) O (AD O underlying24) (Au (v:=(qa (decide (60<r.ss.length)))) O (B2 (c:=(decide (60<r.ss.length))) O O (B_ (a:=60) (b:=r.ss.length))) (st' (v:=(qa (decide (60<r.ss.length)))) (AI O O) O (oNl' (zS EW (xP _)))))))
 refine oNl' (zF (sL [1,2,19] O) (zC ?_))
 refine zO O (λhc0=>?_) (λhc0=>?_)
 ·simp only [jK] at hc0
  have hgr:JG r=true:=TX (by grind)
  exact q4 (asg' O (oNl' (zC (zH (zI (ret_one O (rd_tmp (v:=(qa true)) O) (λw hw=>⟨by rw [hgr],hw.out⟩)))))))
 ·simp only [jK] at hc0
  have hgl:¬(24<r.ds.length\/24<r.ts.length\/60<r.ss.length):=by grind
  refine zJ (q1 (q4 (asg' O (oNl' (zC (zN ?_))))))
  refine zw (tg λ(i:Nat)=>i<=r.ds.length/\∀j,j<i->(Eh (r.ds.getD j Ff).x&&Eh (r.ds.getD j Ff).y)=true) (tg λ(i:Nat)=>[(1,(pP b1 0)),(3,(vN i))]) (tg λ(i:Nat)=>[AU b1 26 (FN r),AC r.a.p (rowsL F0 r.ds),AC r.b.p (rowsL Af r.ts),AC r.c.p (rowsL Af r.ss)]) (tg λ(i:Nat)=>r.ds.length-i) 0 (⟨xu _,λj h=>absurd h (Nat.not_lt_zero _)⟩) (sF O) sr (λi hJ=>?_)
  obtain ⟨hi,hs⟩:=hJ
  refine zf (q4 (AJ O (st' (v:=(pP b1 0)) (AA O underlying26 O sizeOf22 O) O (A_ 0 (qz r.a.p r.ds.length r.a.c) Pz O (st' (v:=(vN r.ds.length)) (AD O underlying22) O (st' (AW (c:=(decide (i<r.ds.length))) O O (B_ (a:=i) (b:=r.ds.length))) O (oNl' (zF (sL [1,3,24] O) (zC ?_)))))))))
  refine zO O (λhc1=>?_) (λhc1=>?_)
  ·replace hc1:=xR hc1
   refine zJ (q1 (zN (q4 (st' (v:=(pP b1 0)) (AA O underlying26 O sizeOf22 O) O (A_ 0 (qz r.a.p r.ds.length r.a.c) Pz O (AJ O (st' (v:=(pP (pB r.a.p) (pO r.a.p+i*4))) (AF (j:=i) O O r.a.ok underlying22 sizeOf96 O Z) O (st' (v:=(pP (pB r.a.p) (pO r.a.p+(i*4+0)))) (AA O underlying96 O sizeOf94 (Nat.add_assoc _ _ _)) O (st' (v:=(aG (Ir ((r.ds.getD i Ff).x)))) (AH (vs:=Ir ((r.ds.getD i Ff).x)) (i:=1) O O (Ao.ne r.a.ok Z) UU (Ll Gg Ff _ _ 0 2 Z jY O) O) O (ck' call41 (NL ((r.ds.getD i Ff).x)) O (st' (BB (c:=(!(Eh ((r.ds.getD i Ff).x)))) O O) O ?_)))))))))))
   refine AJ O ?_
   refine zg (FM:=[(1,(pP b1 0)),(3,(vN i)),(27,(pP b1 0)),(28,(qz r.a.p r.ds.length r.a.c)),(29,(vN i)),(30,(pP (pB r.a.p) (pO r.a.p+i*4))),(31,(pP (pB r.a.p) (pO r.a.p+(i*4+0)))),(32,(aG (Ir ((r.ds.getD i Ff).x)))),(33,(qa (Eh ((r.ds.getD i Ff).x)))),(34,(qa (!(Eh ((r.ds.getD i Ff).x))))),(35,(qa (!(Eh ((r.ds.getD i Ff).x))))),(44,(qa ((!(Eh ((r.ds.getD i Ff).x)))||(!(Eh ((r.ds.getD i Ff).y))))))]) (LM:=[AU b1 26 (FN r),AC r.a.p (rowsL F0 r.ds),AC r.b.p (rowsL Af r.ts),AC r.c.p (rowsL Af r.ss)]) 9 ?_ ?_
   ·rcases xO (!(Eh ((r.ds.getD i Ff).x))) with hg3|hg3
    ·refine zK (k:=35) (u:=qa true) O (by rw [hg3]) ?_
     have hg3':=hg3
     simp only [jK] at hg3'
     exact Aw O (Aw O (Aw O (Aw O (Aw O (Aw O (Aw O (Aw O (st' (v:=(qa true)) (ex_pick_true O O) O (oNl' (zS I4 (xP _)))))))))))
    ·refine zK (k:=35) (u:=qa false) O (by rw [hg3]) ?_
     have hg3':=hg3
     simp only [jK] at hg3'
     exact Au (v:=(pP b1 0)) O (AA O underlying26 O sizeOf22 O) (Au (v:=(qz r.a.p r.ds.length r.a.c)) O (AE (i:=0) (v:=(qz r.a.p r.ds.length r.a.c)) O O Pz.a O) (EV O (Au (v:=(pP (pB r.a.p) (pO r.a.p+i*4))) O (AF (j:=i) O O r.a.ok underlying22 sizeOf96 O Z) (Au (v:=(pP (pB r.a.p) (pO r.a.p+(i*4+2)))) O (AA O underlying96 O sizeOf94 (Nat.add_assoc _ _ _)) (Au (v:=(aG (Ir ((r.ds.getD i Ff).y)))) O (AH (vs:=Ir ((r.ds.getD i Ff).y)) (i:=1) O O (Ao.ne r.a.ok Z) UU (Ll Gg Ff _ _ 2 2 Z jY O) O) (zj (v:=(qa (Eh ((r.ds.getD i Ff).y)))) (AN O) (Ak (args:=[(aG (Ir ((r.ds.getD i Ff).y)))]) O O call41) (λw hw=>NL ((r.ds.getD i Ff).y) w) O (leB O) (Au (v:=(qa (!(Eh ((r.ds.getD i Ff).y))))) O (BB (c:=(!(Eh ((r.ds.getD i Ff).y)))) O O) (st' (v:=(qa (!(Eh ((r.ds.getD i Ff).y))))) (AI O O) O (oNl' (zS I4 (xP _)))))))))))
   refine oNl' (zF (sL [1,3,44] O) (zC ?_))
   refine zO O (λhc2=>?_) (λhc2=>?_)
   ·simp only [jK] at hc2
    have hgr:JG r=true:=V6 Z (by grind)
    exact q4 (asg' O (oNl' (zC (zH (zU (zI (zr (zU (zI (ret_one O (rd_tmp (v:=(qa true)) O) (λw hw=>⟨by rw [hgr],hw.out⟩)))))))))))
   ·simp only [jK] at hc2
    have hsj:(Eh (r.ds.getD i Ff).x&&Eh (r.ds.getD i Ff).y)=true:=by grind
    exact zJ (zP (zC (zQ (AJ O (st' (AV (c:=((i+1:Nat):Int)) O O (AY (a:=i) (b:=1) Z)) O (asg' O (oNl' (zF (sL [1,3] O) (zm (i+1) (⟨Z,λj hj=>by rcases Nat.lt_or_ge j i with k|k;exact hs j k;rw [show j=i by omega];exact hsj⟩) Z (sF O) sr)))))))))
  ·replace hc1:=xQ hc1
   have hgr:JG r=false:=TY hgl λj hj=>hs j Z
   exact zY (zR (zh (zV (q2 (asg' O (oNl' (zC (zH (ret_one O (rd_tmp (v:=(qa false)) O) (λw hw=>⟨by rw [hgr],hw.out⟩))))))))))
theorem Ly (x0:Pt):Instr.fill (λi=>some (i*10,10)) ((Array.range (1*10)).map ((Value.agg (Ad (⟨0,0⟩:Pt)).toArray).cells[·%(Value.agg (Ad (⟨0,0⟩:Pt)).toArray).cells.size]!)) [(0,.agg (Ad x0).toArray)]=some (Ad x0).toArray:=by kernel_rfl
set_option maxHeartbeats 1000000 in
theorem U7 (r:RW) (hl1:r.ds.length<=24) (hl2:r.ts.length<=24) (hl3:r.ss.length<=60) (w:World) {S:Nat->Prop} (hr:Ro S w r):Calls prog 10 #[(aG (FN r))] w (Ai (MZ r.ps r.ts r.ss) S w):=by
 have lr:=Bq (W:=w) hr
 refine AR (args:=[(aG (FN r))]) (L:=[AC r.a.p (rowsL F0 r.ds),AC r.b.p (rowsL Af r.ts),AC r.c.p (rowsL Af r.ss)]) func10 O O (leB O) (C7 hr Ae) (zM (sL [0] O) (q4 (BG (cs:=FN r) O λb1=>al Hw O λb2=>q6 (sL [1,2] O) (rN [(0,true),(1,true),(3,true),(4,true),(2,false),(5,false),(6,true)] [⟨7,3,30,[jj,jj,jj]⟩] [(8,false)] sr jV (λ_ _ d _ _ h=>by cases d<;>exact h) (EP O O Hw O (Fk)) O (FP (v:=(pP b1 1)) O (AA O underlying26 O sizeOf23 O) O (P7 1 (qz r.b.p r.ts.length r.b.c) CQ O (FP (v:=(pP b1 2)) O (AA O underlying26 O sizeOf24 O) O (P7 1 (qz r.c.p r.ss.length r.c.c) GS O (zi O λEF EL=>?_)))))))))
 refine zx 105 3 (yL Zs O OwnOk.none O (Ma (k:=4) O r.b.ok) (Al BF _) (DJ Gn _) (KU Z) Z O λptb ctb otb=>y6 (sl sr) O (zi O λEF EL=>zx 110 3 (yL cg O OwnOk.none O (Ma (k:=6) O r.c.ok) (Al BF _) (DJ Gn _) (KU Z) Z O λpsb csb osb=>y6 (sl (sl sr)) O (FP (v:=(aG ([jj,(qz ptb r.ts.length ctb),(qz psb r.ss.length csb)]))) O (AO (zs:=[jj,jj,jj]) (vs:=[jj,(qz ptb r.ts.length ctb),(qz psb r.ss.length csb)]) (pv:=[(1,(qz ptb r.ts.length ctb)),(2,(qz psb r.ss.length csb))]) (places:=[(0,1),(1,1),(2,1)]) zeroValue30 underlying30 (λw=>by simp [sizeOf23,sizeOf24,sizeOf28]) O O) O (yI λb3=>zL O (Aj O sizeOf30 O (zx 99 10 ?_)))))))
 refine zG (sl (sl (sl (sl sr)))) (zT (zF (sL [1,2,3] O) (q1 (q4 (asg' O (oNl' (zC (zN ?_))))))))
 refine yb (tg λ(i:Nat) (p1:Option Addr) (c1:Nat) (ps:List Pt)=>i<=r.ds.length/\OwnOk p1 ps.length c1/\ps=r.ps.take i) (tg λ(i:Nat) (p1:Option Addr) (c1:Nat) (ps:List Pt)=>[(1,(pP b1 0)),(2,(pP b2 0)),(3,(pP b3 0)),(4,(vN i))]) (tg λ(i:Nat) (p1:Option Addr) (c1:Nat) (ps:List Pt)=>[rowW p1 99 10 ps.length c1 (rowsL Ad ps),AU b3 30 ([(qz p1 ps.length c1),(qz ptb r.ts.length ctb),(qz psb r.ss.length csb)]),rowW psb 110 3 r.ss.length csb (rowsL Af r.ss),rowW ptb 105 3 r.ts.length ctb (rowsL Af r.ts),AU b2 30 ([jj,jj,jj]),AU b1 26 (FN r),AC r.a.p (rowsL F0 r.ds),AC r.b.p (rowsL Af r.ts),AC r.c.p (rowsL Af r.ss)]) (tg λ(i:Nat) (p1:Option Addr) (c1:Nat) (ps:List Pt)=>r.ds.length-i) 0 none 0 ([]:List Pt) (⟨xu _,OwnOk.none,rfl⟩) (sF O) sr (λi p1 c1 ps hJ=>?_)
 obtain ⟨hi,h1,hps⟩:=hJ
 have hpl:ps.length<=24:=by rw [hps,List.length_take];omega
 refine zf (q4 (AJ O (st' (v:=(pP b1 0)) (AA O underlying26 O sizeOf22 O) O (A_ 5 (qz r.a.p r.ds.length r.a.c) Pz O (st' (v:=(vN r.ds.length)) (AD O underlying22) O (st' (AW (c:=(decide (i<r.ds.length))) O O (B_ (a:=i) (b:=r.ds.length))) O (oNl' (zF (sL [1,2,3,4,16] O) (zC ?_)))))))))
 refine zO O (λhc0=>?_) (λhc0=>?_)
 ·replace hc0:=xR hc0
  refine zJ (q1 (zN (rC [(0,true),(1,true),(2,true),(3,true),(4,true),(5,true),(6,true),(7,false),(8,false),(9,false),(10,true)] 11 [] (sl sr) (sl sr) jV (λ_ _ d _ _ h=>by cases d<;>exact h) (vE (v:=(pP b3 0)) O (AA O underlying30 O sizeOf28 O) O (vE O (AE (i:=0) (v:=(qz p1 ps.length c1)) O O DS.a O) O (vE (v:=(pP b1 0)) O (AA O underlying26 O sizeOf22 O) O (vE O (AE (i:=4) (v:=(qz r.a.p r.ds.length r.a.c)) O O Pz.a O) O (vM O O O (vE (v:=(pP (pB r.a.p) (pO r.a.p+i*4))) O (AF (j:=i) O O r.a.ok underlying22 sizeOf96 O Z) O (vE (v:=(aG (F0 (r.ds.getD i Ff)))) O (AH (vs:=F0 (r.ds.getD i Ff)) (i:=5) O O (Ao.ne r.a.ok Z) eM (AZ Gg _ _ _ Z) (Gg _)) O (yC O ?_)))))))))))
  refine ck' call37 (an (r.ds.getD i Ff) (r.ok Z)) O (z7 (sl sr) (yC O (zn (V:=λb4=>(qz (jk b4) 1 1)) (T:=99) (cs:=Ad (HH (r.ds.getD i Ff))) (AM O) (BH (z:=.agg (Ad (⟨0,0⟩:Pt)).toArray) (cs:=Ad (HH (r.ds.getD i Ff))) (pv:=[(0,(aG (Ad (HH (r.ds.getD i Ff)))))]) underlying28 sizeOf99 zeroValue99 jY jY O (Ly (HH (r.ds.getD i Ff)))) O (leB O) λb4=>z7 (sl (sl sr)) (yC O (yY (j:=0) (cs2:=rowsL Ad (ps++[HH (r.ds.getD i Ff)])) eO O h1 (Al Az _) O O O O jY (KU Z) Z (by rw [DE];rfl) O λp_1 c_1 ho_1 hne_1=>z7 (sl (sl sr)) (vE (v:=(pP b3 0)) O (AA O underlying30 O sizeOf28 O) O (yU O (Ei 2 (off:=0) (vs:=[(qz p_1 (ps.length+1) c_1)]) (cs':=[(qz p_1 (ps.length+1) c_1),(qz ptb r.ts.length ctb),(qz psb r.ss.length csb)]) (AM O) O sizeOf28 O (zG (sl (sl (sl sr))) ?_)))))))))
  refine zT (zF (sL [1,2,3,4] O) (zP (zC (zQ (AJ O (st' (AV (c:=((i+1:Nat):Int)) O O (AY (a:=i) (b:=1) Z)) O (asg' O (oNl' (zF (sL [1,2,3,4] O) ?_)))))))))
  rw [show ps.length+1=(ps++[HH (r.ds.getD i Ff)]).length by simp]
  exact yO (i+1) p_1 c_1 (ps++[HH (r.ds.getD i Ff)]) (⟨Z,(by simpa using ho_1),by rw [hps,Ph r Z]⟩) Z (sF O) (sl sr)
 ·replace hc0:=xQ hc0
  exact zY (zR (yK (zV (q2 (An 1 Bu O (Ei 4 (off:=0) (vs:=[(qz p1 ps.length c1),(qz ptb r.ts.length ctb),(qz psb r.ss.length csb)]) (cs':=[(qz p1 ps.length c1),(qz ptb r.ts.length ctb),(qz psb r.ss.length csb)]) (AM O) O sizeOf30 O (oNl' (zF (sL [1,2,3,4] O) (zC (zH (ret_one O (Ah (i:=4) (cs:=[(qz p1 ps.length c1),(qz ptb r.ts.length ctb),(qz psb r.ss.length csb)]) O O isAgg30 sizeOf30 O) (λw hw=>(by have hpf:ps=r.ps:=(by rw [hps,show i=r.ds.length by omega,<-r.pl,List.take_length]);subst hpf;exact d7 hw 0 3 2 O O O h1 otb osb O O O O)))))))))))))
theorem J7 (x0:Z3):Instr.fill (λi=>some (i*3,3)) ((Array.range (1*3)).map ((Value.agg (Af ((0,0,0):Z3)).toArray).cells[·%(Value.agg (Af ((0,0,0):Z3)).toArray).cells.size]!)) [(0,.agg (Af x0).toArray)]=some (Af x0).toArray:=by kernel_rfl
set_option maxHeartbeats 1000000 in
theorem KD (r:RW) (hl1:r.ds.length<=24) (hl2:r.ts.length<=24) (hl3:r.ss.length<=60) (w:World) {S:Nat->Prop} (hr:Ro S w r):Calls prog 13 #[(aG (FN r))] w (Ai (Hy r.ps r.ts r.ss) S w):=by
 have lr:=Bq (W:=w) hr
 refine AR (args:=[(aG (FN r))]) (L:=[AC r.a.p (rowsL F0 r.ds),AC r.b.p (rowsL Af r.ts),AC r.c.p (rowsL Af r.ss)]) func13 O O (leB O) (C7 hr Ae) (zM (sL [0] O) (q4 (BG (cs:=FN r) O λb1=>al OJ O λb2=>q3 (sL [1,2] O) (st' (v:=(pP b1 1)) (AA O underlying26 O sizeOf23 O) O (A_ 1 (qz r.b.p r.ts.length r.b.c) CQ O (zx 105 3 (yL Zs O OwnOk.none O (Ma (k:=4) O r.b.ok) (Al BF _) (DJ Gn _) (KU Z) Z O λptb ctb otb=>st' (v:=(aG ([jj,(qz ptb r.ts.length ctb),jj]))) (AO (zs:=[jj,jj,jj]) (vs:=[jj,(qz ptb r.ts.length ctb),jj]) (pv:=[(1,(qz ptb r.ts.length ctb))]) (places:=[(0,1),(1,1),(2,1)]) zeroValue39 underlying39 (λw=>by simp [sizeOf23,sizeOf36,sizeOf37]) O O) O (al OJ O λb3=>?_))))))))
 refine Aj O sizeOf39 O (zx 121 6 (zx 119 3 (q6 (sL [1,2,3] O) (q4 (asg' O (oNl' (zC (zN ?_))))))))
 refine yb (tg λ(i:Nat) (p2:Option Addr) (c2:Nat) (ss:List Z3)=>i<=r.ss.length/\OwnOk p2 ss.length c2/\ss=r.ss.take i) (tg λ(i:Nat) (p2:Option Addr) (c2:Nat) (ss:List Z3)=>[(1,(pP b1 0)),(2,(pP b2 0)),(3,(pP b3 0)),(4,(vN i))]) (tg λ(i:Nat) (p2:Option Addr) (c2:Nat) (ss:List Z3)=>[rowW p2 119 3 ss.length c2 (rowsL Af ss),rowW none 121 6 0 0 (rowsL CW ([]:List RP)),AU b3 39 ([jj,(qz ptb r.ts.length ctb),(qz p2 ss.length c2)]),rowW ptb 105 3 r.ts.length ctb (rowsL Af r.ts),AU b2 39 ([jj,jj,jj]),AU b1 26 (FN r),AC r.a.p (rowsL F0 r.ds),AC r.b.p (rowsL Af r.ts),AC r.c.p (rowsL Af r.ss)]) (tg λ(i:Nat) (p2:Option Addr) (c2:Nat) (ss:List Z3)=>r.ss.length-i) 0 none 0 ([]:List Z3) (⟨xu _,OwnOk.none,rfl⟩) (sF O) sr (λi p2 c2 ss hJ=>?_)
 obtain ⟨hi,h2,hss⟩:=hJ
 have hsl:ss.length<=60:=by rw [hss,List.length_take];omega
 refine zf (q4 (AJ O (st' (v:=(pP b1 2)) (AA O underlying26 O sizeOf24 O) O (A_ 5 (qz r.c.p r.ss.length r.c.c) GS O (st' (v:=(vN r.ss.length)) (AD O underlying24) O (st' (AW (c:=(decide (i<r.ss.length))) O O (B_ (a:=i) (b:=r.ss.length))) O (oNl' (zF (sL [1,2,3,4,14] O) (zC ?_)))))))))
 refine zO O (λhc0=>?_) (λhc0=>?_)
 ·replace hc0:=xR hc0
  refine zJ (q1 (zN (rC [(0,true),(1,true),(2,true),(3,true),(4,true),(5,true),(6,true),(7,true),(8,true),(9,true),(10,true),(11,true),(12,true),(13,true),(14,true),(15,true),(16,true),(17,true),(18,true),(19,true),(20,true),(21,false),(22,false),(23,true)] 24 [] (sl sr) (sk (sl sr)) jV (λ_ _ d _ _ h=>by cases d<;>exact h) (vE (v:=(pP b3 2)) O (AA O underlying39 O sizeOf37 O) O (vE O (AE (i:=1) (v:=(qz p2 ss.length c2)) O O OI.a O) O (vE (v:=(pP b1 2)) O (AA O underlying26 O sizeOf24 O) O (vE O (AE (i:=4) (v:=(qz r.c.p r.ss.length r.c.c)) O O GS.a O) O (vM O O O (vE (v:=(pP (pB r.c.p) (pO r.c.p+i*3))) O (AF (j:=i) O O r.c.ok underlying24 sizeOf110 O Z) O (vE (v:=(pP (pB r.c.p) (pO r.c.p+(i*3+0)))) O (AA O underlying110 O sizeOf3 (Nat.add_assoc _ _ _)) O (vE O (Ab (v:=(vI ((r.ss.getD i ((0,0,0):Z3)).1))) (i:=7) O O (Ao.ne r.c.ok Z) BN (By BF ((0,0,0):Z3) _ _ 0 Z jY O)) O ?_)))))))))))
  refine vE (v:=(pP b1 2)) O (AA O underlying26 O sizeOf24 O) O (vE O (AE (i:=4) (v:=(qz r.c.p r.ss.length r.c.c)) O O GS.a O) O (vM O O O (vE (v:=(pP (pB r.c.p) (pO r.c.p+i*3))) O (AF (j:=i) O O r.c.ok underlying24 sizeOf110 O Z) O (vE (v:=(pP (pB r.c.p) (pO r.c.p+(i*3+1)))) O (AA O underlying110 O sizeOf3 (Nat.add_assoc _ _ _)) O (vE O (Ab (v:=(vI ((r.ss.getD i ((0,0,0):Z3)).2.1))) (i:=7) O O (Ao.ne r.c.ok Z) BN (By BF ((0,0,0):Z3) _ _ 1 Z jY O)) O (vE (v:=(pP b1 2)) O (AA O underlying26 O sizeOf24 O) O (vE O (AE (i:=4) (v:=(qz r.c.p r.ss.length r.c.c)) O O GS.a O) O (vM O O O (vE (v:=(pP (pB r.c.p) (pO r.c.p+i*3))) O (AF (j:=i) O O r.c.ok underlying24 sizeOf110 O Z) O (vE (v:=(pP (pB r.c.p) (pO r.c.p+(i*3+2)))) O (AA O underlying110 O sizeOf3 (Nat.add_assoc _ _ _)) O (vE O (Ab (v:=(vI ((r.ss.getD i ((0,0,0):Z3)).2.2))) (i:=7) O O (Ao.ne r.c.ok Z) BN (By BF ((0,0,0):Z3) _ _ 2 Z jY O)) O ?_)))))))))))
  refine vE (v:=(aG ([(vI ((r.ss.getD i ((0,0,0):Z3)).1)),(vI ((r.ss.getD i ((0,0,0):Z3)).2.1)),(vI ((r.ss.getD i ((0,0,0):Z3)).2.2))]))) O (AO (zs:=Af ((0,0,0):Z3)) (vs:=[(vI ((r.ss.getD i ((0,0,0):Z3)).1)),(vI ((r.ss.getD i ((0,0,0):Z3)).2.1)),(vI ((r.ss.getD i ((0,0,0):Z3)).2.2))]) (pv:=[(0,(vI ((r.ss.getD i ((0,0,0):Z3)).1))),(1,(vI ((r.ss.getD i ((0,0,0):Z3)).2.1))),(2,(vI ((r.ss.getD i ((0,0,0):Z3)).2.2)))]) (places:=[(0,1),(1,1),(2,1)]) zeroValue119 underlying119 (λw=>by simp [sizeOf3]) O O) O (yC O (zn (V:=λb4=>(qz (jk b4) 1 1)) (T:=119) (cs:=Af ((((r.ss.getD i ((0,0,0):Z3)).1),((r.ss.getD i ((0,0,0):Z3)).2.1),((r.ss.getD i ((0,0,0):Z3)).2.2)):Z3)) (AM O) (BH (z:=.agg (Af ((0,0,0):Z3)).toArray) (cs:=Af ((((r.ss.getD i ((0,0,0):Z3)).1),((r.ss.getD i ((0,0,0):Z3)).2.1),((r.ss.getD i ((0,0,0):Z3)).2.2)):Z3)) (pv:=[(0,(aG ([(vI ((r.ss.getD i ((0,0,0):Z3)).1)),(vI ((r.ss.getD i ((0,0,0):Z3)).2.1)),(vI ((r.ss.getD i ((0,0,0):Z3)).2.2))])))]) underlying37 sizeOf119 zeroValue119 jY jY O (J7 ((((r.ss.getD i ((0,0,0):Z3)).1),((r.ss.getD i ((0,0,0):Z3)).2.1),((r.ss.getD i ((0,0,0):Z3)).2.2)):Z3))) O (leB O) λb4=>z7 (sl (sl sr)) (yC O (yY (j:=0) (cs2:=rowsL Af (ss++[((((r.ss.getD i ((0,0,0):Z3)).1),((r.ss.getD i ((0,0,0):Z3)).2.1),((r.ss.getD i ((0,0,0):Z3)).2.2)):Z3)])) eQ O h2 (Al BF _) O O O O jY (KU Z) Z (by rw [DE];rfl) O λp_1 c_1 ho_1 hne_1=>z7 (sl (sl sr)) (vE (v:=(pP b3 2)) O (AA O underlying39 O sizeOf37 O) O (yU O (Ei 3 (off:=2) (vs:=[(qz p_1 (ss.length+1) c_1)]) (cs':=[jj,(qz ptb r.ts.length ctb),(qz p_1 (ss.length+1) c_1)]) (AM O) O sizeOf37 O (zG (sl (sl (sk (sl sr)))) (zT ?_)))))))))
  refine zF (sL [1,2,3,4] O) (zP (zC (zQ (AJ O (st' (AV (c:=((i+1:Nat):Int)) O O (AY (a:=i) (b:=1) Z)) O (asg' O (oNl' (zF (sL [1,2,3,4] O) ?_))))))))
  rw [show ss.length+1=(ss++[((((r.ss.getD i ((0,0,0):Z3)).1),((r.ss.getD i ((0,0,0):Z3)).2.1),((r.ss.getD i ((0,0,0):Z3)).2.2)):Z3)]).length by simp]
  exact yO (i+1) p_1 c_1 (ss++[((((r.ss.getD i ((0,0,0):Z3)).1),((r.ss.getD i ((0,0,0):Z3)).2.1),((r.ss.getD i ((0,0,0):Z3)).2.2)):Z3)]) (⟨Z,(by simpa using ho_1),by rw [hss,Lw (d:=(0,0,0)) Z]⟩) Z (sF O) (sl sr)
 ·replace hc0:=xQ hc0
  have hsf:ss=r.ss:=by rw [hss,show i=r.ss.length by omega,List.take_length]
  refine zY (zR (yK (zV (q1 (q4 (asg' O (oNl' (zC (zN ?_)))))))))
  refine yb (tg λ(i:Nat) (p1:Option Addr) (c1:Nat) (rs:List RP)=>i<=r.ds.length/\OwnOk p1 rs.length c1/\rs.map (·.p)=r.ps.take i/\∀y∈B5 rs,∀b,y.foot=some b->Nw ⟨w,none⟩ S b) (tg λ(i:Nat) (p1:Option Addr) (c1:Nat) (rs:List RP)=>[(1,(pP b1 0)),(2,(pP b2 0)),(3,(pP b3 0)),(5,(vN i))]) (tg λ(i:Nat) (p1:Option Addr) (c1:Nat) (rs:List RP)=>(rowW p2 119 3 ss.length c2 (rowsL Af ss)::rowW p1 121 6 rs.length c1 (rowsL CW rs)::AU b3 39 ([(qz p1 rs.length c1),(qz ptb r.ts.length ctb),(qz p2 ss.length c2)])::rowW ptb 105 3 r.ts.length ctb (rowsL Af r.ts)::AU b2 39 ([jj,jj,jj])::AU b1 26 (FN r)::AC r.a.p (rowsL F0 r.ds)::AC r.b.p (rowsL Af r.ts)::AC r.c.p (rowsL Af r.ss)::B5 rs)) (tg λ(i:Nat) (p1:Option Addr) (c1:Nat) (rs:List RP)=>r.ds.length-i) 0 none 0 ([]:List RP) (⟨xu _,OwnOk.none,rfl,(λy hy=>by cases hy)⟩) (sF O) sr (λi p1 c1 rs hJ=>?_)
  obtain ⟨hi,h1,hps,hat⟩:=hJ
  have hpl:rs.length<=24:=by rw [<-xv (f:=(·.p)),hps,List.length_take];omega
  refine zf (q4 (AJ O (st' (v:=(pP b1 0)) (AA O underlying26 O sizeOf22 O) O (A_ 5 (qz r.a.p r.ds.length r.a.c) Pz O (st' (v:=(vN r.ds.length)) (AD O underlying22) O (st' (AW (c:=(decide (i<r.ds.length))) O O (B_ (a:=i) (b:=r.ds.length))) O (oNl' (zF (sL [1,2,3,5,45] O) (zC ?_)))))))))
  refine zO O (λhc1=>?_) (λhc1=>?_)
  ·replace hc1:=xR hc1
   refine zJ (q1 (zN (rC [(0,true),(1,true),(2,true),(3,true),(4,true),(5,true),(6,true),(7,false),(8,false),(9,false),(10,true)] 11 [] (sk (sl sr)) (sk (sl sr)) jV (λ_ _ d _ _ h=>by cases d<;>exact h) (vE (v:=(pP b3 0)) O (AA O underlying39 O sizeOf36 O) O (vE O (AE (i:=1) (v:=(qz p1 rs.length c1)) O O Fm.a O) O (vE (v:=(pP b1 0)) O (AA O underlying26 O sizeOf22 O) O (vE O (AE (i:=4) (v:=(qz r.a.p r.ds.length r.a.c)) O O Pz.a O) O (vM O O O (vE (v:=(pP (pB r.a.p) (pO r.a.p+i*4))) O (AF (j:=i) O O r.a.ok underlying22 sizeOf96 O Z) O (vE (v:=(aG (F0 (r.ds.getD i Ff)))) O (AH (vs:=F0 (r.ds.getD i Ff)) (i:=5) O O (Ao.ne r.a.ok Z) eM (AZ Gg _ _ _ Z) (Gg _)) O (yC O ?_)))))))))))
   refine cP (S:=S) (x:=(HH (r.ds.getD i Ff))) (args:=[(aG (F0 (r.ds.getD i Ff)))]) call48 (λw hw=>YN (r.ds.getD i Ff) (r.ok Z) w) O O O λg1 lg1=>z7 (sl (sl (sl (sl (sk (sl sr)))))) (yC O (zn (V:=λb4=>(qz (jk b4) 1 1)) (T:=121) (cs:=BU g1) (AM O) (BH (z:=.agg #[(qa false),jj,jj,(qa false),jj,jj]) (cs:=BU g1) (pv:=[(0,(aG (BU g1)))]) underlying36 sizeOf121 zeroValue121 jY jY O (bJ g1)) O (leB O) λb4=>z7 (sl (sl (sl (sl (sl (sk (sl sr))))))) (yC O (yf 6 (j:=0) (cs2:=rowsL CW (rs++[(⟨_,g1⟩:RP)])) eP O h1 (Al Bd _) O O O O O jY (KU Z) Z (by rw [DE];rfl) O λp_2 c_2 ho_2 hne_2=>z7 (sl (sl (sl (sl (sl (sk (sl sr))))))) (vE (v:=(pP b3 0)) O (AA O underlying39 O sizeOf36 O) O (yU O (Ei 7 (off:=0) (vs:=[(qz p_2 (rs.length+1) c_2)]) (cs':=[(qz p_2 (rs.length+1) c_2),(qz ptb r.ts.length ctb),(qz p2 ss.length c2)]) (AM O) O sizeOf36 O (zG (sl (sl (sl (sl (sl (sk (sl (sl sr)))))))) ?_))))))))
   refine zT (zF (sL [1,2,3,5] O) (zP (zC (zQ (AJ O (AQ.subL (sl sr) (yc (show List.Perm _ (rowW p2 119 3 ss.length c2 (rowsL Af ss)::rowW p_2 121 6 (rs.length+1) c_2 (rowsL CW (rs++[(⟨_,g1⟩:RP)]))::AU b3 39 ([(qz p_2 (rs.length+1) c_2),(qz ptb r.ts.length ctb),(qz p2 ss.length c2)])::rowW ptb 105 3 r.ts.length ctb (rowsL Af r.ts)::AU b2 39 ([jj,jj,jj])::AU b1 26 (FN r)::AC r.a.p (rowsL F0 r.ds)::AC r.b.p (rowsL Af r.ts)::AC r.c.p (rowsL Af r.ss)::B5 (rs++[(⟨_,g1⟩:RP)])) from cB (⟨_,g1⟩:RP) [rowW p2 119 3 ss.length c2 (rowsL Af ss),rowW p_2 121 6 (rs.length+1) c_2 (rowsL CW (rs++[(⟨_,g1⟩:RP)])),AU b3 39 ([(qz p_2 (rs.length+1) c_2),(qz ptb r.ts.length ctb),(qz p2 ss.length c2)]),rowW ptb 105 3 r.ts.length ctb (rowsL Af r.ts),AU b2 39 ([jj,jj,jj]),AU b1 26 (FN r),AC r.a.p (rowsL F0 r.ds),AC r.b.p (rowsL Af r.ts),AC r.c.p (rowsL Af r.ss)] rs) (st' (AV (c:=((i+1:Nat):Int)) O O (AY (a:=i) (b:=1) Z)) O (asg' O (oNl' (zF (sL [1,2,3,5] O) ?_)))))))))))
   rw [show rs.length+1=(rs++[(⟨_,g1⟩:RP)]).length by simp]
   exact yO (i+1) p_2 c_2 (rs++[(⟨_,g1⟩:RP)]) (⟨Z,(by simpa using ho_2),by rw [List.map_append,hps,Ph r Z];rfl,At.snoc hat lg1⟩) Z (sF O) sr
  ·replace hc1:=xQ hc1
   exact zY (zR (yK (zV (q2 (An 2 C1 O (Ei 4 (off:=0) (vs:=[(qz p1 rs.length c1),(qz ptb r.ts.length ctb),(qz p2 ss.length c2)]) (cs':=[(qz p1 rs.length c1),(qz ptb r.ts.length ctb),(qz p2 ss.length c2)]) (AM O) O sizeOf39 O (oNl' (zF (sL [1,2,3,5] O) (zC (zH (ret_one O (Ah (i:=4) (cs:=[(qz p1 rs.length c1),(qz ptb r.ts.length ctb),(qz p2 ss.length c2)]) O O isAgg39 sizeOf39 O) (λw hw=>(by rw [<-hsf];exact XG (A:=[rowW p2 119 3 ss.length c2 (rowsL Af ss),rowW p1 121 6 rs.length c1 (rowsL CW rs),AU b3 39 ([(qz p1 rs.length c1),(qz ptb r.ts.length ctb),(qz p2 ss.length c2)]),rowW ptb 105 3 r.ts.length ctb (rowsL Af r.ts),AU b2 39 ([(qz p1 rs.length c1),(qz ptb r.ts.length ctb),(qz p2 ss.length c2)]),AU b1 26 (FN r),AC r.a.p (rowsL F0 r.ds),AC r.b.p (rowsL Af r.ts),AC r.c.p (rowsL Af r.ss)]) hw 1 3 0 O O O h1 otb h2 O O O (by rw [hps,show i=r.ds.length by omega,<-r.pl,List.take_length]) hat O)))))))))))))
end
section
set_option maxRecDepth 100000
theorem eS:ElemT prog 47 50 4 32:=⟨underlying47,Ds jV⟩
end
section
def DQ (ts:List T3) (a b:Nat):Nat->Int
  | 0 => -1
  | k+1=>if GU (ts.getD (ts.length-1-k) (0,0,0)) a b=true then ((ts.length-1-k:Nat):Int) else DQ ts a b k
def Uk (ts:List T3) (a b:Nat):E4:=⟨a,b,Ib ts a b ts.length,Ib ts b a ts.length⟩
def Iu (ts:List T3) (a:Nat):Nat->List E4
  | 0=>[]
  | j+1=>if 0<=(Uk ts a (a+1+j)).l\/0<=(Uk ts a (a+1+j)).r then Iu ts a j++[Uk ts a (a+1+j)] else Iu ts a j
def bD (ts:List T3) (N:Nat):Nat->List E4
  | 0=>[]
  | a+1=>bD ts N a++Iu ts a (N-(a+1))
section
variable {ts:List T3} {a b N:Nat}
theorem LT:∀k,k<=ts.length->(DQ ts a b k = -1/\∀j,ts.length-k<=j->j<ts.length->GU (ts.getD j (0,0,0)) a b=false)\/∃j,ts.length-k<=j/\j<ts.length/\GU (ts.getD j (0,0,0)) a b=true/\DQ ts a b k=(j:Int)/\∀i,ts.length-k<=i->i<j->GU (ts.getD i (0,0,0)) a b=false
  | 0,_=>.inl ⟨rfl,λj h1 h2=>by omega⟩
  | k+1,hk=>by
    rw [DQ]
    by_cases e:GU (ts.getD (ts.length-1-k) (0,0,0)) a b=true
    · rw [if_pos e]
      exact .inr ⟨ts.length-1-k,Z,Z,e,rfl,λi h1 h2=>by omega⟩
    · rw [if_neg e]
      have e2:GU (ts.getD (ts.length-1-k) (0,0,0)) a b=false:=by simpa using e
      rcases LT k Z with ⟨h1,h2⟩|⟨j,h1,h2,h3,h4,h5⟩
      · refine .inl ⟨h1,λj q1 q2=>?_⟩
        rcases Nat.lt_or_ge j (ts.length-k) with h|h
        · rw [show j=ts.length-1-k by omega];exact e2
        · exact h2 j h q2
      · refine .inr ⟨j,Z,h2,h3,h4,λi q1 q2=>?_⟩
        rcases Nat.lt_or_ge i (ts.length-k) with h|h
        · rw [show i=ts.length-1-k by omega];exact e2
        · exact h5 i h q2
theorem N5:DQ ts a b ts.length=Ib ts a b ts.length:=by
  rcases LT (ts:=ts) (a:=a) (b:=b) ts.length (Nat.le_refl _) with ⟨h1,h2⟩|⟨j,h1,h2,h3,h4,h5⟩
  · rw [h1,KP _ λj hj=>h2 j Z hj]
  · rw [h4,PJ _ h2 h3 λi hi=>h5 i Z hi]
theorem L7 {j:Nat}:GU (ts.getD j (0,0,0)) a b=true↔QQ ts j a b:=by
  unfold QQ
  constructor
  · intro h
    unfold GU at h
    simp only [xY,xZ,xT] at h
    rcases h with ⟨h1,h2⟩|⟨h1,h2⟩|⟨h1,h2⟩
    · exact ⟨0,by decide,by rw [Fs jY];exact Prod.ext h1 h2⟩
    · exact ⟨1,by decide,by rw [Fs jY];exact Prod.ext h1 h2⟩
    · exact ⟨2,by decide,by rw [Fs jY];exact Prod.ext h1 h2⟩
  · rintro ⟨r,hr,h⟩
    rw [Fs hr] at h
    have h1:=congrArg Prod.fst h
    have h2:=congrArg Prod.snd h
    simp only at h1 h2
    have e:r=0\/r=1\/r=2:=by omega
    unfold GU
    rcases e with rfl|rfl|rfl<;>simp [FH] at h1 h2<;>simp [h1,h2]
theorem Hc:HX ts (3*ts.length) a b (Ib ts a b ts.length):=by
  refine PK ?_
  by_cases h:∃j,j<ts.length/\GU (ts.getD j (0,0,0)) a b=true
  · rcases LT (ts:=ts) (a:=a) (b:=b) ts.length (Nat.le_refl _) with ⟨h1,h2⟩|⟨j,h1,h2,h3,h4,h5⟩
    · obtain ⟨j,k1,k2⟩:=h
      rw [h2 j Z k1] at k2
      cases k2
    · refine .inr ⟨j,h2,by rw [<-N5];exact h4,L7.1 h3,λi hi k=>?_⟩
      have:=h5 i Z hi
      rw [L7.2 k] at this
      cases this
  · have hn:∀j,j<ts.length->GU (ts.getD j (0,0,0)) a b=false:=λj hj=>by
      cases e:GU (ts.getD j (0,0,0)) a b with
      | false=>rfl
      | true=>exact absurd ⟨j,hj,e⟩ h
    exact .inl ⟨KP _ hn,λj hj k=>by have:=hn j hj;rw [L7.2 k] at this;cases this⟩
theorem HI {e:E4}:∀j,e∈Iu ts a j↔e.a=a/\a<e.b/\e.b<a+1+j/\e=Uk ts e.a e.b/\(0<=e.l\/0<=e.r)
  | 0=>⟨λh=>(by cases h),λh=>Z⟩
  | j+1=>by
    rw [Iu]
    split
    · rename_i hc
      rw [List.mem_append,HI j,xz]
      constructor
      · rintro (h|rfl)
        · exact ⟨h.1,h.2.1,Z,h.2.2.2⟩
        · exact ⟨rfl,(by show a<a+1+j;omega),(by show a+1+j<a+1+(j+1);omega),rfl,hc⟩
      · rintro ⟨h1,h2,h3,h4,h5⟩
        rcases Nat.lt_or_ge e.b (a+1+j) with h6|h6
        · exact .inl ⟨h1,h2,h6,h4,h5⟩
        · refine .inr ?_
          rw [h4,h1,show e.b=a+1+j by omega]
    · rename_i hc
      rw [HI j]
      constructor
      · exact λh=>⟨h.1,h.2.1,Z,h.2.2.2⟩
      · rintro ⟨h1,h2,h3,h4,h5⟩
        rcases Nat.lt_or_ge e.b (a+1+j) with h6|h6
        · exact ⟨h1,h2,h6,h4,h5⟩
        · rw [h1,show e.b=a+1+j by omega] at h4
          rw [h4] at h5
          exact absurd h5 hc
theorem Np {e:E4}:∀A,e∈bD ts N A↔e.a<A/\e.a<e.b/\e.b<N/\e=Uk ts e.a e.b/\(0<=e.l\/0<=e.r)
  | 0=>⟨λh=>(by cases h),λh=>Z⟩
  | A+1=>by
    rw [bD,List.mem_append,Np A,HI]
    constructor
    · rintro (h|h)
      · exact ⟨Z,h.2⟩
      · exact ⟨Z,Z,Z,h.2.2.2⟩
    · rintro ⟨h1,h2,h3,h4⟩
      rcases Nat.lt_or_ge e.a A with h5|h5
      · exact .inl ⟨h5,h2,h3,h4⟩
      · exact .inr ⟨Z,Z,Z,h4⟩
theorem HJ:∀j,(Iu ts a j).Pairwise YM
  | 0=>List.Pairwise.nil
  | j+1=>by
    rw [Iu]
    split
    · refine List.pairwise_append.2 ⟨HJ j,List.pairwise_singleton _ _,λx hx y hy=>?_⟩
      rw [xz] at hy
      subst hy
      have h:=(HI j).1 hx
      exact .inr ⟨h.1,(by show x.b<a+1+j;exact h.2.2.1)⟩
    · exact HJ j
theorem Kw:∀A,(bD ts N A).Pairwise YM
  | 0=>List.Pairwise.nil
  | A+1=>List.pairwise_append.2 ⟨Kw A,HJ _,λx hx y hy=>.inl (by
      have h1:=(Np A).1 hx
      have h2:=(HI _).1 hy
      omega)⟩
theorem bE (hn:Bn N ts=true) (hN:N<=4611686018427387904):bD ts N N=BI ts:=by
  refine RZ YM.asymm (Kw N) (Ql hn hN) λe=>?_
  rw [Np,Ig hn hN]
  constructor
  · rintro ⟨_,h2,_,h4,h5⟩
    have el:e.l=Ib ts e.a e.b ts.length:=congrArg E4.l h4
    have er:e.r=Ib ts e.b e.a ts.length:=congrArg E4.r h4
    refine ⟨rfl,rfl,h2,by rw [el];exact Hc,by rw [er];exact Hc,?_⟩
    rcases h5 with h5|h5
    · rw [el] at h5
      obtain ⟨u,hu,h⟩:=(HX.neg2 Hc).1 h5
      exact ⟨u,hu,.inl h⟩
    · rw [er] at h5
      obtain ⟨u,hu,h⟩:=(HX.neg2 Hc).1 h5
      exact ⟨u,hu,.inr h⟩
  · intro k
    have kl:HX ts (3*ts.length) e.a e.b e.l:=k.l
    have kr:HX ts (3*ts.length) e.b e.a e.r:=k.r
    have el:e.l=Ib ts e.a e.b ts.length:=kl.uniq Hc
    have er:e.r=Ib ts e.b e.a ts.length:=kr.uniq Hc
    have hk:(e.a,e.b)∈TE ts:=(PV hn hN).2 ⟨e,(Ig hn hN).2 k,rfl,rfl⟩
    obtain ⟨k1,k2⟩:=WN hn hN hk
    refine ⟨Z,k1,k2,?_,?_⟩
    · obtain ⟨x,y,l,r⟩:=e
      simp only at el er
      rw [el,er]
      rfl
    · obtain ⟨u,hu,h⟩:=k.some
      rcases h with h|h
      · exact .inl ((HX.neg2 kl).2 ⟨u,hu,h⟩)
      · exact .inr ((HX.neg2 kr).2 ⟨u,hu,h⟩)
where
  HX.neg2 {s x y:Nat} {z:Int} (h:HX ts s x y z):0<=z↔∃u,u<s/\CT ts u=(x,y):=by
    rcases h with ⟨h1,h2⟩|⟨u,h1,h2,h3,_⟩
    · exact ⟨λ_=>by omega,λ⟨u,hu,e⟩=>absurd e (h2 u hu)⟩
    · exact ⟨λ_=>⟨u,h1,h3⟩,λ_=>by omega⟩
theorem SY {k:Nat} (h:GU (ts.getD (ts.length-1-k) (0,0,0)) a b=true):DQ ts a b (k+1)=((ts.length-1-k:Nat):Int):=if_pos h
theorem WV {k:Nat} (h:¬GU (ts.getD (ts.length-1-k) (0,0,0)) a b=true):DQ ts a b (k+1)=DQ ts a b k:=if_neg h
theorem XM {j:Nat} (hj:a+1<=j) (h:0<=(Uk ts a j).l\/0<=(Uk ts a j).r):Iu ts a (j+1-(a+1))=Iu ts a (j-(a+1))++[Uk ts a j]:=by
  rw [show j+1-(a+1)=(j-(a+1))+1 by omega,Iu,if_pos (by rw [show a+1+(j-(a+1))=j by omega];exact h),show a+1+(j-(a+1))=j by omega]
theorem Zk {j:Nat} (hj:a+1<=j) (h:¬(0<=(Uk ts a j).l\/0<=(Uk ts a j).r)):Iu ts a (j+1-(a+1))=Iu ts a (j-(a+1)):=by
  rw [show j+1-(a+1)=(j-(a+1))+1 by omega,Iu,if_neg (by rw [show a+1+(j-(a+1))=j by omega];exact h)]
theorem bM {k:Nat} (h:k=ts.length):(⟨a,b,DQ ts a b k,DQ ts b a k⟩:E4)=Uk ts a b:=by
  subst h
  rw [N5,N5];rfl
end
end
end Go.Proofs.YtpolhpjiahbidaaGreatDoor
