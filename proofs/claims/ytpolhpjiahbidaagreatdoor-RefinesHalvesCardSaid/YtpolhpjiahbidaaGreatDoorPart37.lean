import Derived.Lib.ItoaLen
import Derived.Laws.IdiomStrings
import Derived.Laws.Strings
import Derived.Test.YtpolhpjiahbidaaGreatDoorPart05
import Derived.Test.YtpolhpjiahbidaaGreatDoorPart10
import Derived.Test.YtpolhpjiahbidaaGreatDoorPart14
import Derived.Test.YtpolhpjiahbidaaGreatDoorPart21
import Derived.Test.YtpolhpjiahbidaaGreatDoorPart22
import Derived.Test.YtpolhpjiahbidaaGreatDoorPart35
import Derived.Test.YtpolhpjiahbidaaGreatDoorPart36
namespace Go.Proofs.YtpolhpjiahbidaaGreatDoor
open Go Go.RowKit Go.Proofs.Tryz
set_option linter.unusedVariables false
set_option linter.unusedSimpArgs false
section
def V_ (l:List UInt8):List Value:=l.map λx=>Value.int .u8 (x.toNat:Int)
theorem Jr (l:List UInt8):(V_ l).length=l.length:=by simp [V_]
def OE (w : World) : Prop := Lib.TabIs Tryz.prog w "internal/strconv.uint64pow10" .u64 Lib.pow10Tab
theorem Qx (zq:Nat) (hZ:zq=24) (b u:Nat) (T:TypeId) (w:World) (hb:w.heap[b]?=some (.cells (List.replicate zq (Value.int .u8 0)).toArray T (0,0))) (hu:u<18446744073709551616) :
    Calls Tryz.prog 264 #[.slice (some ⟨b,0,none⟩) (Lib.nDigits u) 24,.int .u64 u] w λe w'=>e=.returned (.tuple #[])/\KA w w' (some b)/\∃o,w'.heap[b]?=some o/\Fp 0 (V_ (Lib.decDigits u)) o:=by
  have hnd:=Lib.nDigits_le20 u hu
  have hH:Go.Sort.Holds (λ(b:UInt8)=>Value.int .u8 (b.toNat:Int)) w b 0 (Array.replicate (Lib.nDigits u) (0:UInt8)):=λj hj=>by
    have hj':j<Lib.nDigits u:=by simpa using hj
    refine ⟨?_,by simp [World.frozen?,hb]⟩
    rw [cell_of_row w b _ _ T (0,0) hb,getElem!_pos _ j hj]
    simp [show j<zq by omega]
  have h:=Tryz.internal_strconv_formatBase10 b 0 24 u (Array.replicate (Lib.nDigits u) 0) w hH (by rw [Array.size_replicate];exact Lib.lt_pow_nDigits u) hu (by rw [Array.size_replicate];omega)
  rw [Array.size_replicate] at h
  refine h.mono ?_
  rintro e w' ⟨rfl,n,v',dk,rfl,hF⟩
  refine ⟨rfl,⟨⟨rfl,rfl,rfl,by simp [Go.Sort.putRow,Go.Sort.mapBlock],λk hk hne=>?_⟩,(by show w.drawn<=w.drawn+n;omega)⟩,_,(by simp only [World.heap_drewN,Go.Sort.putRow,Go.Sort.mapBlock,Array.getElem?_modify,hb,if_true,Option.map_some,Go.Sort.onCells]:_=some (.cells (Go.Sort.putCells (λ(b:UInt8)=>Value.int .u8 (b.toNat:Int)) 0 dk (List.replicate zq (Value.int .u8 0)).toArray) T (0,0))),_,T,(0,0),rfl,?_⟩
  · have:b≠k:=λe=>hne (by rw [e])
    simp [Go.Sort.putRow,Go.Sort.mapBlock,Array.getElem?_modify,this]
  · have hsz:dk.size=Lib.nDigits u:=hF.size
    rw [Jr,Lib.decDigits_length]
    apply List.ext_getElem?
    intro j
    by_cases hj:j<Lib.nDigits u
    · have hjd:j<(Lib.decDigits u).length:=by rw [Lib.decDigits_length];exact hj
      rw [List.drop_zero,List.getElem?_take_of_lt hj,Array.getElem?_toList]
      have e1:=Lib.row_is_numeral hF j hjd
      simp only [V_,List.getElem?_map,List.getElem?_eq_getElem hjd,e1,Option.map_some]
      simp [Go.Sort.putCells,hj,hsz,show j<zq by omega]
    · rw [List.getElem?_take_eq_none (by omega),List.getElem?_eq_none (by rw [Jr,Lib.decDigits_length];omega)]
theorem Sh (b u:Nat) (T:TypeId) (w:World) (hb:w.heap[b]?=some (.cells (List.replicate 24 (Value.int .u8 0)).toArray T (0,0))) (hu:u<18446744073709551616) :
    Calls Tryz.prog 264 #[.slice (some ⟨b,0,none⟩) (Lib.nDigits u) 24,.int .u64 u] w λe w'=>e=.returned (.tuple #[])/\KA w w' (some b)/\∃o,w'.heap[b]?=some o/\Fp 0 (V_ (Lib.decDigits u)) o:=Qx 24 rfl b u T w hb hu
theorem OE.below {w w':World} (h:OE w) (hb:GC w.heap.size w w'):OE w':=by
  unfold OE Lib.TabIs World.var? at *
  cases hg : Tryz.prog.globalNamed "internal/strconv.uint64pow10" with
  | none=>simp [hg] at h
  | some g =>
    simp only [hg,Option.bind_some] at h ⊢
    have hlt:g<w.heap.size:=by
      rcases Nat.lt_or_ge g w.heap.size with h'|h'
      · exact h'
      · rw [Array.getElem?_eq_none h'] at h;simp at h
    rw [hb.block g hlt]
    exact h
theorem VX (u:Nat) (h1:1<=u) (h2:u<18446744073709551616) (w:World) (hT:OE w):Calls Tryz.prog 263 #[vK .u64 u] w (Ai w (vN (Lib.nDigits u))) :=
  (Tryz.internal_strconv_numDigits u h1 h2 w hT).mono λe w' h=>⟨h.1,h.2▸GC.refl _ _⟩
theorem QQ (i:Nat) (h:i<100) (w:World):Calls Tryz.prog 262 #[vN i] w (Ai w (.string (txB (Lib.decDigits i)))) :=
  (Tryz.internal_strconv_small i h w).mono λe w' h=>⟨h.1,h.2▸GC.refl _ _⟩
section
variable {ops:Array Oper} {rest:List Oper} {Q:Exit->Act->World->Prop} {n:Nat} {F:List (Nat×Value)} {w0:A_} {L:List As} {t:TypeId} {p:String} {af:Array Edge} {d:Option Tmp} {g:Option (Nat×Bool)} {x:Operand}
theorem OkL.callRow {P:Program} {o:Oper} {f:FuncId} {args:Array Value} {v:Value} (i:Nat) {b:Nat} {T:TypeId} {cs cs':List Value} (hw:Wt ops n F o)
    (he:∀a w,Cf n a F->BB w0 w L->(execOp a.eval o).run P w=.ok (.enter f args) w) (hi:L[i]?=some (AX b T cs))
    (hc:∀w,BB w0 w L->Calls P f args w λe w'=>e=.returned v/\KA w w' (some b)/\∃o,w'.heap[b]?=some o/\Fp 0 cs' o)
    (hd:∀d,o.dst=some d->d<n) (next:OkL P ops rest Q n (match o.dst with|some d=>(d,v)::F|none=>F) w0 (L.set i (AF (some ⟨b,0,none⟩) cs'))):OkL P ops (o::rest) Q n F w0 L:=λa w ha hW=>by
  unfold wpList
  rw [if_pos (hw a ha)]
  left
  unfold Oper.wp
  rw [he a w ha hW,Oper.upon_enter]
  refine (hc w hW).mono ?_
  rintro e w' ⟨rfl,hg,o',hcell,hl⟩
  have hW':=hW.turn hi rfl rfl hg ⟨o',hcell,hl⟩ (y:=AF (some ⟨b,0,none⟩) cs')
  cases hdd:o.dst with
  | none=>rw [hdd] at next;exact next _ _ ha.put_none hW'
  | some d=>rw [hdd] at next;exact next _ _ (ha.put (hd d hdd)) hW'
theorem Ei {P:Program} {tx e:TypeId} {b len k m:Nat} {ki:IntKind} {hi:Operand} (hx:evF F x=some (.pointer (some ⟨b,0,none⟩))) (hh:evF F hi=some (.int ki (m:Nat))) (hu:P.underlying tx=some (.array len e)) (hs:∀w,(sizeOf e).run P w=.ok k w) (hm:m<=len) (h0:0<len) :
    Ex P n F w0 L ⟨d,.slice tx x none (some hi) none,t,p,af,g⟩ (.slice (some ⟨b,0,none⟩) m len):=λA w ha _=>by
  have e1:¬len=0:=by omega
  simp [execOp,ha.ev hx,ha.ev hh,Instr.sliceAt,run_underlying hu,Instr.sureAddr,Instr.sliceBounds,Instr.sliceBound,asIntOf,hs,e1,hm,Addr.add_lit]
theorem KF {P:Program} {src dst e:TypeId} {b k:Nat} {cap m:Nat} {l:List UInt8} (hx:evF F x=some (.slice (some ⟨b,0,none⟩) m cap)) (hm:m=l.length) (hi:L[k]?=some (AF (some ⟨b,0,none⟩) (V_ l))) (hs:P.underlying src=some (.slice e)) (he:P.underlying e=some (.int .u8)) (hd:P.underlying dst=some .string) :
    Ex P n F w0 L ⟨d,.convert src dst x,t,p,af,g⟩ (.string (txB l)):=λA w hf hW=>by
  subst hm
  have h:=run_convert_bytes_back (P:=P) w src dst e ⟨b,0,none⟩ cap l hs he hd (λj hj=>by
    obtain ⟨o,ho,hp⟩:=hW.holds hi b rfl
    rw [Addr.add_lit]
    exact Fp.cell hp ho (by simp [V_,hj]))
  simp only [execOp,hf.ev hx,Sem.run_bind,h,Result.andThen_ok,Sem.run_pure]
  rfl
end
end
section
set_option maxRecDepth 100000
theorem Mb (n:Nat) (hn:n<18446744073709551616) (w:World) (hT:OE w):Calls Tryz.prog 230 #[(vK .u64 n),(vI 10)] w (Ai w (Value.string (txB (Lib.decDigits n)))):=by
 have hnd:=Lib.nDigits_le20 n hn
 refine AZ (args:=[(vK .u64 n),(vI 10)]) Tryz.func230 rfl rfl (AK rfl) (OkC.subF (sL [0,1] rfl) (q4 (asg' rfl (OkL.nil (q1 (q4 (AO rfl (AG (BE (c:=true) rfl rfl (by decide)) rfl (OkL.nil (OkQ.subF (sL [0,1,4,10] rfl) (OkQ.then_ ?_)))))))))))
 refine OkC.cond_true rfl (OkC.seq (q4 (AO rfl (AG (Af (c:=(decide (n<100))) rfl rfl (B9 (a:=n) (b:=100))) rfl (OkL.nil (OkQ.subF (sL [0,1,4,12] rfl) (OkQ.then_ ?_)))))))
 refine OkC.cond rfl (λhc1=>?_) (λhc1=>?_)
 ·replace hc1:=of_decide_eq_true hc1
  exact q4 (AO rfl (AG (Ar (c:=((n:Nat):Int)) rfl Tryz.underlying69 Tryz.underlying3 (EJ (by omega))) rfl (ck' Tryz.call262 (QQ n (by omega)) rfl (asg' rfl (OkL.nil (OkQ.subF (sL [0,1,4] rfl) (OkQ.then_ (OkC.ret (OkQ.then_ret (OkQ.then_ret (ret_one rfl (rd_tmp (v:=(Value.string (txB (Lib.decDigits n)))) rfl) (λw hw=>⟨rfl,hw.out⟩))))))))))))
 ·replace hc1:=of_decide_eq_false hc1
  refine OkC.skip (q2 (al X3 rfl λb1=>OkL.nil (q2 (AO rfl (Cq Tryz.call263 (λw hw=>VX n (by omega) (by omega) w (hT.below hw.out)) rfl (asg' rfl (q3 (sL [0,1,4,5,6] rfl) (AO rfl (AG (v:=(Value.slice (some ⟨b1,0,none⟩) (Lib.nDigits n) 24)) (Ei (len:=24) (m:=Lib.nDigits n) rfl rfl Tryz.underlying331 Tryz.sizeOf5 (by omega) (by decide)) rfl (AO rfl ?_))))))))))
  exact OkL.callRow 0 (cs':=V_ (Lib.decDigits n)) (v:=(Value.tuple #[])) (AP rfl) (Ap (args:=[(Value.slice (some ⟨b1,0,none⟩) (Lib.nDigits n) 24),(vK .u64 n)]) rfl rfl Tryz.call264) rfl (λw hw=>Sh _ _ 331 w (hw.get (i:=0) rfl) hn) (λd hd=>by cases hd<;>exact (AK rfl)) (q3 (sL [0,1,4,5,6] rfl) (AO rfl (AG (v:=(Value.slice (some ⟨b1,0,none⟩) (Lib.nDigits n) 24)) (Ei (len:=24) (m:=Lib.nDigits n) rfl rfl Tryz.underlying331 Tryz.sizeOf5 (by omega) (by decide)) rfl (AG (v:=(Value.string (txB (Lib.decDigits n)))) (KF (k:=0) rfl (Lib.decDigits_length n).symm rfl Tryz.underlying86 Tryz.underlying5 Tryz.underlying9) rfl (asg' rfl (OkL.nil (OkQ.subF (sL [0,1,4,5,6] rfl) (OkQ.then_ (OkC.ret (OkQ.then_ret (ret_one rfl (rd_tmp (v:=(Value.string (txB (Lib.decDigits n)))) rfl) (λw hw=>⟨rfl,hw.out⟩))))))))))))
theorem OD (n:Nat) (hn:n<18446744073709551616) (w:World) (hT:OE w):Calls Tryz.prog 186 #[(vK .u64 n),(vI 10)] w (Ai w (Value.string (txB (Lib.decDigits n)))):=by
 refine AZ (args:=[(vK .u64 n),(vI 10)]) Tryz.func186 rfl rfl (AK rfl) (OkC.subF (sL [0,1] rfl) (q4 (asg' rfl (OkL.nil (q2 (AO rfl (AO rfl (Cq Tryz.call230 (λw hw=>Mb n (by omega) w (hT.below hw.out)) rfl (asg' rfl (OkL.nil (OkQ.subF (sL [4] rfl) ?_)))))))))))
 exact OkQ.then_ (OkC.ret (ret_one rfl (rd_tmp (v:=(Value.string (txB (Lib.decDigits n)))) rfl) (λw hw=>⟨rfl,hw.out⟩)))
end
theorem GR {k:Nat} (h:k<10):(UInt8.ofNat (48+k)).toNat=48+k:=by
  rw [UInt8.toNat_ofNat']
  exact Nat.mod_eq_of_lt (by omega)
theorem Ta:∀(u:Nat) {c:UInt8},c∈Lib.decDigits u->48<=c.toNat/\c.toNat<=57:=λu=>by
  induction u using Nat.strongRecOn with
  | _ u ih =>
    intro c hc
    by_cases h:u<10
    · rw [Lib.decDigits,dif_pos h,List.mem_singleton] at hc
      subst hc
      rw [GR h];omega
    · rw [Lib.decDigits,dif_neg h] at hc
      rcases List.mem_append.1 hc with hc|hc
      · exact ih _ (by omega) hc
      · rcases List.mem_singleton.1 hc with rfl
        rw [GR (Nat.mod_lt _ (by decide))];omega
def vD (l:List UInt8):Nat:=l.foldl (λa c=>a*10+(c.toNat-48)) 0
theorem Rg (u:Nat):vD (Lib.decDigits u)=u:=by
  induction u using Nat.strongRecOn with
  | _ u ih =>
    by_cases h:u<10
    · rw [Lib.decDigits,dif_pos h]
      show 0*10+((UInt8.ofNat (48+u)).toNat-48)=u
      rw [GR h];omega
    · rw [Lib.decDigits,dif_neg h]
      have h1:=ih (u/10) (by omega)
      unfold vD at h1 ⊢
      rw [List.foldl_append,h1]
      show u/10*10+((UInt8.ofNat (48+u%10)).toNat-48)=u
      rw [GR (Nat.mod_lt _ (by decide))];omega
theorem LC {u v:Nat} (h:Lib.decDigits u=Lib.decDigits v):u=v:=by rw [<-Rg u,h,Rg]
theorem Mj (u:Nat) (l:List UInt8):Lib.decDigits u≠45::l:=λh=>by
  have:=(Ta u (c:=45) (by rw [h];exact List.mem_cons_self)).1
  exact absurd this (by decide)
theorem Un {y z:Int} (h:txI y=txI z):y=z:=by
  unfold txI at h
  split at h<;>split at h
  · injection h with _ h
    have:=LC h;omega
  · exact absurd h.symm (Mj _ _)
  · exact absurd h (Mj _ _)
  · have:=LC h;omega
theorem LN (z:Int):∀c∈txI z,(c != 47)=true:=λc hc=>by
  have key:∀u,c∈Lib.decDigits u->(c != 47)=true:=λu hu=>by
    have h1:=(Ta u hu).1
    rw [bne_iff_ne]
    rintro rfl
    exact absurd h1 (by decide)
  unfold txI at hc
  split at hc
  · rcases List.mem_cons.1 hc with rfl|hc
    · decide
    · exact key _ hc
  · exact key _ hc
theorem M_ (q:Rat):(L1 q).takeWhile (· != 47)=txI q.num:=by
  unfold L1
  split
  · have h:=List.takeWhile_append_of_pos (l₂:=[]) (LN q.num)
    simpa using h
  · rw [List.takeWhile_append_of_pos (LN q.num)]
    simp
theorem NG (q:Rat):(L1 q).dropWhile (· != 47)=if q.den-1=0 then [] else 47::Lib.decDigits q.den:=by
  unfold L1
  split
  · have h:=List.dropWhile_append_of_pos (l₂:=[]) (LN q.num)
    simpa using h
  · rw [List.dropWhile_append_of_pos (LN q.num)]
    simp
theorem VH {q r:Rat} (h:L1 q=L1 r):q=r:=by
  have h1:txI q.num=txI r.num:=by rw [<-M_,h,M_]
  have h2:=NG q
  rw [h,NG] at h2
  have hq:=q.den_pos
  have hr:=r.den_pos
  refine Rat.ext (Un h1) ?_
  split at h2<;>split at h2
  · omega
  · cases h2
  · cases h2
  · injection h2 with _ h2
    exact (LC h2).symm
theorem Vb (a b:List UInt8):((txB a).toList == (txB b).toList)=(a == b):=by
  rw [ByteArray.toList_eq,ByteArray.toList_eq];rfl
theorem VB (q r:Rat):((txB (L1 q)).toList == (txB (L1 r)).toList)=decide (q=r):=by
  rw [Vb]
  by_cases h:q=r
  · rw [h];simp
  · rw [decide_eq_false h,beq_eq_false_iff_ne]
    exact λk=>h (VH k)
section
set_option maxRecDepth 100000
theorem LO {n:Nat} (h:n<18446744073709551616):(Lib.decDigits n).length<=20:=by rw [Lib.decDigits_length];exact Lib.nDigits_le20 n h
theorem Uu {z:Int} (h:z.natAbs<18446744073709551616):(txI z).length<=21:=by
 have:=LO h
 unfold txI;split<;>simp<;>omega
theorem IA (n:Nat) (hn:n<18446744073709551616) (w:World) (hT:OE w):Calls Tryz.prog 132 #[(aG (AS n))] w (Ai w (Value.string (txB (Lib.decDigits n)))):=by
 refine AZ (args:=[(aG (AS n))]) Tryz.func132 rfl rfl (AK rfl) (OkC.subF (sL [0] rfl) (q4 (Bg (cs:=AS n) rfl λb1=>asg' rfl (q6 (sL [1,2] rfl) (q4 (AG (v:=(pP b1 1)) (AA rfl Tryz.underlying71 rfl Tryz.sizeOf9 rfl) rfl (Aw 0 (Value.string (Bd n)) Q5 rfl (AG (Bf (c:=(decide (n<18446744073709551616))) rfl rfl CI) rfl (OkL.nil (OkQ.subF (sL [1,2,10] rfl) ?_))))))))))
 refine OkQ.then_ ?_
 refine OkC.cond rfl (λhc0=>?_) (λhc0=>?_)
 ·replace hc0:=of_decide_eq_true hc0
  exact q4 (AG (v:=(pP b1 0)) (AA rfl Tryz.underlying71 rfl Tryz.sizeOf69 rfl) rfl (Aw 0 (vK .u64 (Bo n)) F9 rfl (OkL.retell (k:=12) (u:=(vK .u64 n)) rfl (by rw [BY (by omega)]) (Cq Tryz.call186 (λw hw=>OD n (by omega) w (hT.below hw.out)) rfl (asg' rfl (OkL.nil (OkQ.subF (sL [1,2] rfl) (OkQ.then_ (OkC.ret (OkQ.then_ret (ret_one rfl (rd_tmp (v:=(Value.string (txB (Lib.decDigits n)))) rfl) (λw hw=>⟨rfl,hw.out⟩))))))))))))
 ·replace hc0:=of_decide_eq_false hc0
  exfalso;omega
theorem K0 (z:Int) (hz:z.natAbs<18446744073709551616) (w:World) (hT:OE w):Calls Tryz.prog 131 #[(aG (A7 z))] w (Ai w (Value.string (txB (txI z)))):=by
 have hl:=LO hz
 refine AZ (args:=[(aG (A7 z))]) Tryz.func131 rfl rfl (AK rfl) (OkC.subF (sL [0] rfl) (q4 (Bg (cs:=A7 z) rfl λb1=>asg' rfl (q6 (sL [1,2] rfl) (q4 (AG (v:=(pP b1 2)) (AA rfl Tryz.underlying75 rfl Tryz.sizeOf4 rfl) rfl (Aw 0 (Value.bool (decide (z<0))) KL rfl (OkL.nil (OkQ.subF (sL [1,2,4] rfl) (OkQ.then_ ?_))))))))))
 refine OkC.cond rfl (λhc0=>?_) (λhc0=>?_)
 ·replace hc0:=of_decide_eq_true hc0
  have he:txI z=45::Lib.decDigits z.natAbs:=by unfold txI;rw [if_pos hc0]
  exact q4 (AG (v:=(pP b1 0)) (AA rfl Tryz.underlying75 rfl Tryz.sizeOf73 rfl) rfl (AG (v:=(pP b1 0)) (AA rfl Tryz.underlying73 rfl Tryz.sizeOf71 rfl) rfl (EX 0 (AS z.natAbs) Bw rfl (Cq Tryz.call132 (λw hw=>IA z.natAbs (by omega) w (hT.below hw.out)) rfl (AG (v:=(Value.string (txB (45::Lib.decDigits z.natAbs)))) (CH (r:=(txB (45::Lib.decDigits z.natAbs))) rfl rfl (by rw [C_];show 1+_<=_;omega) (DF [45] _)) rfl (asg' rfl (OkL.nil (OkQ.subF (sL [1,2] rfl) (OkQ.then_ (OkC.ret (OkQ.then_ret (ret_one rfl (rd_tmp (v:=(Value.string (txB (45::Lib.decDigits z.natAbs)))) rfl) (λw hw=>⟨by rw [he],hw.out⟩)))))))))))))
 ·replace hc0:=of_decide_eq_false hc0
  have he:txI z=Lib.decDigits z.natAbs:=by unfold txI;rw [if_neg hc0]
  exact OkC.skip (q2 (AG (v:=(pP b1 0)) (AA rfl Tryz.underlying75 rfl Tryz.sizeOf73 rfl) rfl (AG (v:=(pP b1 0)) (AA rfl Tryz.underlying73 rfl Tryz.sizeOf71 rfl) rfl (EX 0 (AS z.natAbs) Bw rfl (Cq Tryz.call132 (λw hw=>IA z.natAbs (by omega) w (hT.below hw.out)) rfl (asg' rfl (OkL.nil (OkQ.subF (sL [1,2] rfl) (OkQ.then_ (OkC.ret (ret_one rfl (rd_tmp (v:=(Value.string (txB (Lib.decDigits z.natAbs)))) rfl) (λw hw=>⟨by rw [he],hw.out⟩))))))))))))
theorem QN (q:Rat) (hn:q.num.natAbs<18446744073709551616) (hd:q.den<18446744073709551616) (w:World) (hT:OE w):Calls Tryz.prog 77 #[(aG (AW q))] w (Ai w (Value.string (txB (L1 q)))):=by
 have hl1:=Uu hn
 have hl2:=LO hd
 have hdn:nw q.den<=1099511627776:=Nat.le_trans (CN.2 (show q.den<4294967296^2 from hd)) (by decide)
 refine AZ (args:=[(aG (AW q))]) Tryz.func77 rfl rfl (AK rfl) (OkC.subF (sL [0] rfl) (q4 (Bg (cs:=AW q) rfl λb1=>asg' rfl (q6 (sL [1,2] rfl) (q4 (BU 0 Ck rfl (ck' Tryz.call130 (F6 q) rfl (OkL.nil (OkQ.subF (sL [1,2,4] rfl) (OkQ.then_ ?_))))))))))
 refine OkC.cond rfl (λhc0=>?_) (λhc0=>?_)
 ·replace hc0:=of_decide_eq_true hc0
  have he:L1 q=txI q.num:=by unfold L1;rw [if_pos hc0]
  exact q4 (AG (v:=(pP b1 0)) (AA rfl Tryz.underlying77 rfl Tryz.sizeOf75 rfl) rfl (EX 0 (A7 q.num) D0 rfl (Cq Tryz.call131 (λw hw=>K0 q.num (by omega) w (hT.below hw.out)) rfl (asg' rfl (OkL.nil (OkQ.subF (sL [1,2] rfl) (OkQ.then_ (OkC.ret (OkQ.then_ret (ret_one rfl (rd_tmp (v:=(Value.string (txB (txI q.num)))) rfl) (λw hw=>⟨by rw [he],hw.out⟩)))))))))))
 ·replace hc0:=of_decide_eq_false hc0
  have he:L1 q=txI q.num++[47]++Lib.decDigits q.den:=by unfold L1;rw [if_neg hc0,List.append_assoc];rfl
  refine OkC.skip (q1 (CV [(0,true),(1,true),(4,true),(2,false),(3,true),(5,false),(6,false),(7,true),(8,true)] sr (Ag (v:=(pP b1 0)) rfl (AA rfl Tryz.underlying77 rfl Tryz.sizeOf75 rfl) (FL 0 (A7 q.num) D0 rfl (Ec 0 Ck rfl (OkE.imp rfl (Cq Tryz.call131 (λw hw=>K0 q.num (by omega) w (hT.below hw.out)) rfl (OkE.back sr (Ag (v:=(Value.string (txB (txI q.num++[47])))) rfl (CH (r:=(txB (txI q.num++[47]))) rfl rfl (by rw [C_];show _+1<=_;omega) (DF _ [47])) (OkE.imp rfl (ck' Tryz.call133 (den_ok q (by omega)) rfl ?_)))))))))))
  exact OkE.back sr (OkE.imp rfl (Cq Tryz.call132 (λw hw=>IA q.den (by omega) w (hT.below hw.out)) rfl (OkE.back sr (Ag (v:=(Value.string (txB (txI q.num++[47]++Lib.decDigits q.den)))) rfl (CH (r:=(txB (txI q.num++[47]++Lib.decDigits q.den))) rfl rfl (by rw [C_,C_,List.length_append,List.length_singleton];omega) (DF _ _)) (pS' rfl (OkE.nil (OkQ.subF (sL [1,2] rfl) (OkQ.then_ (OkC.ret (ret_one rfl (rd_tmp (v:=(Value.string (txB (txI q.num++[47]++Lib.decDigits q.den)))) rfl) (λw hw=>⟨by rw [he],hw.out⟩)))))))))))
def FW (q:Rat):Prop:=q.num.natAbs<18446744073709551616/\q.den<18446744073709551616
def PW (p:Pt):Prop:=FW p.x/\FW p.y
theorem TD {n:Int} {k:Nat} (hk:k≠0) (hn:n.natAbs<18446744073709551616) (hk2:k<18446744073709551616):FW ((n:Rat)/((k:Int):Rat)):=by
 have e:(n:Rat)/((k:Int):Rat)=mkRat n k:=by
  rw [<-Rat.divInt_eq_div];rfl
 rw [e,Rat.mkRat_def,dif_neg hk]
 refine ⟨Nat.lt_of_le_of_lt ?_ hn,Nat.lt_of_le_of_lt ?_ hk2⟩
 ·rw [Rat.normalize_eq]
  show (n/((n.natAbs.gcd k:Nat):Int)).natAbs<=_
  rw [Int.natAbs_ediv_of_dvd (Int.ofNat_dvd_left.2 (Nat.gcd_dvd_left _ _))]
  exact Nat.div_le_self _ _
 ·rw [Rat.normalize_eq]
  exact Nat.div_le_self _ _
theorem Th {q:QD} (h:q.ok):FW (IL q):=by
 obtain ⟨h1,h2,h3⟩:=h
 exact TD (by omega) (by omega) (by omega)
theorem Ve {p:PD} (h:p.ok):PW (Fx p):=⟨Th h.1,Th h.2⟩
theorem LQ (q:Rat) {r:Rat} (b:FX r) (hs:FW q) (hr:Sz r<=16777216) (w:World) {S:Nat->Prop} (hb:Ro S w b) (hT:OE w):Calls Tryz.prog 30 #[(aG (AW q)),(aG (fxL b))] w (Ai w (Value.bool (decide (q=r)))):=by
 obtain ⟨hs1,hs2⟩:=hs
 have lb:=CU (W:=w) hb
 refine Aa (args:=[(aG (AW q)),(aG (fxL b))]) (L:=[By b.z.n,By b.m]) Tryz.func30 rfl rfl (AK rfl) (NJ hb Al) (OkC.subF (sL [0,1] rfl) (q4 (Bg (cs:=AW q) rfl λb1=>Bg (cs:=fxL b) rfl λb2=>asg' rfl (q6 (sL [2,3,4] rfl) (CV [(0,true),(2,true),(1,false),(3,false),(4,true),(5,true)] sr (Ec 1 Ck rfl (Ec 0 DM rfl (OkE.imp rfl (Cq Tryz.call77 (λw hw=>QN q (by omega) (by omega) w (hT.below hw.out)) rfl ?_)))))))))
 exact OkE.back sr (OkE.imp rfl (Cq Tryz.call87 (λw hw=>R4 b (by omega) w (inS hw 2 rfl lb)) rfl (OkE.back sr (Ag rfl (Bf (c:=(decide (q=r))) rfl rfl (VB _ _)) (pS' rfl (OkE.nil (OkQ.subF (sL [4] rfl) (OkQ.then_ (OkC.ret (ret_one rfl (rd_tmp (v:=(Value.bool (decide (q=r)))) rfl) (λw hw=>⟨rfl,hw.out⟩)))))))))))
theorem Se (p q:Pt):decide (p=q)=(decide (p.x=q.x)&&decide (p.y=q.y)):=by
 rw [Bool.eq_iff_iff]
 simp only [Bool.and_eq_true,decide_eq_true_eq]
 exact ⟨λh=>by rw [h];exact ⟨rfl,rfl⟩,λh=>Pt.ext h.1 h.2⟩
theorem Wq (p:Pt) {q:Pt} (b:PX q) (hs:PW p) (hr:D9 q<=16777216) (w:World) {S:Nat->Prop} (hb:Ro S w b) (hT:OE w):Calls Tryz.prog 49 #[(aG (BC p)),(aG (D7 b))] w (Ai w (Value.bool (decide (p=q)))):=by
 obtain ⟨hs1,hs2⟩:=hs
 have gx:=Ek q
 have gy:=Em q
 have lb:=CU (W:=w) hb
 refine Aa (args:=[(aG (BC p)),(aG (D7 b))]) (L:=[By b.x.z.n,By b.x.m,By b.y.z.n,By b.y.m]) Tryz.func49 rfl rfl (AK rfl) (V3 hb Al) (OkC.subF (sL [0,1] rfl) (q4 (Bg (cs:=BC p) rfl λb1=>Bg (cs:=D7 b) rfl λb2=>asg' rfl (q6 (sL [2,3,4] rfl) ?_))))
 by_cases hx:p.x=q.x
 ·skip
  refine OkC.region (AG (v:=(pP b1 0)) (AA rfl Tryz.underlying99 rfl Tryz.sizeOf77 rfl) rfl (EX 1 (AW p.x) Ck rfl (AG (v:=(pP b2 0)) (AA rfl Tryz.underlying121 rfl Tryz.sizeOf83 rfl) rfl (EX 0 (fxL b.x) DM rfl (Cq (args:=[(aG (AW p.x)),(aG (fxL b.x))]) (v:=(Value.bool true)) Tryz.call30 (λw hw=>(by have h9:=LQ p.x b.x (by assumption) (by omega) w (V8 (inS hw 2 rfl lb)) (hT.below hw.out);rw [decide_eq_true hx] at h9;exact h9)) rfl (AO rfl (OkL.step (v:=(pP b1 5)) (AB rfl) (AA rfl Tryz.underlying99 rfl Tryz.sizeOf77 rfl) rfl (AK rfl) (OkL.step (v:=(aG (AW p.y))) (AB rfl) (BA (i:=1) (vs:=AW p.y) rfl rfl Ck.a Ck.s rfl rfl) rfl (AK rfl) (OkL.step (v:=(pP b2 3)) (AB rfl) (AA rfl Tryz.underlying121 rfl Tryz.sizeOf83 rfl) rfl (AK rfl) (OkL.step (v:=(aG (fxL b.y))) (AB rfl) (BA (i:=0) (vs:=fxL b.y) rfl rfl DM.a DM.s rfl rfl) rfl (AK rfl) (OkL.call (v:=(Value.bool (decide (p.y=q.y)))) (AB rfl) (Ap (args:=[(aG (AW p.y)),(aG (fxL b.y))]) rfl rfl Tryz.call30) (λw hw=>LQ p.y b.y (by assumption) (by omega) w (XB (inS hw 2 rfl lb)) (hT.below hw.out)) rfl (AK rfl) ?_)))))))))))
  exact AG (v:=(Value.bool (decide (p.y=q.y)))) (AN rfl rfl) rfl (asg' rfl (OkL.nil (OkQ.subF (sL [4] rfl) (OkQ.then_ (OkC.ret (ret_one rfl (rd_tmp (v:=(Value.bool (decide (p.y=q.y)))) rfl) (λw hw=>⟨by rw [Se];simp [hx],hw.out⟩)))))))
 ·skip
  refine OkC.region (AG (v:=(pP b1 0)) (AA rfl Tryz.underlying99 rfl Tryz.sizeOf77 rfl) rfl (EX 1 (AW p.x) Ck rfl (AG (v:=(pP b2 0)) (AA rfl Tryz.underlying121 rfl Tryz.sizeOf83 rfl) rfl (EX 0 (fxL b.x) DM rfl (Cq (args:=[(aG (AW p.x)),(aG (fxL b.x))]) (v:=(Value.bool false)) Tryz.call30 (λw hw=>(by have h9:=LQ p.x b.x (by assumption) (by omega) w (V8 (inS hw 2 rfl lb)) (hT.below hw.out);rw [decide_eq_false hx] at h9;exact h9)) rfl (AO rfl (OkL.skip (AC rfl) rfl (AK rfl) (OkL.skip (AC rfl) rfl (AK rfl) (OkL.skip (AC rfl) rfl (AK rfl) (OkL.skip (AC rfl) rfl (AK rfl) (OkL.skip (AC rfl) rfl (AK rfl) ?_)))))))))))
  exact AG (v:=(Value.bool false)) (AJ rfl rfl) rfl (asg' rfl (OkL.nil (OkQ.subF (sL [4] rfl) (OkQ.then_ (OkC.ret (ret_one rfl (rd_tmp (v:=(Value.bool false)) rfl) (λw hw=>⟨by rw [Se];simp [hx],hw.out⟩)))))))
end
end Go.Proofs.YtpolhpjiahbidaaGreatDoor
