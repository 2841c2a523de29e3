import Derived.Lib.ItoaLen
import Derived.Laws.IdiomStrings
import Derived.Laws.Strings
import Derived.Test.YtpolhpjiahbidaaGreatDoorPart05
import Derived.Test.YtpolhpjiahbidaaGreatDoorPart12
import Derived.Test.YtpolhpjiahbidaaGreatDoorPart18
import Derived.Test.YtpolhpjiahbidaaGreatDoorPart28
import Derived.Test.YtpolhpjiahbidaaGreatDoorPart31
import Derived.Test.YtpolhpjiahbidaaGreatDoorPart38
import Derived.Test.YtpolhpjiahbidaaGreatDoorPart39
import Derived.Test.YtpolhpjiahbidaaGreatDoorPart40
namespace Go.Proofs.YtpolhpjiahbidaaGreatDoor
open Go Go.RowKit Go.Proofs.Tryz
set_option linter.unusedVariables false
set_option linter.unusedSimpArgs false
section
def XF (l:List UInt8):List Value:=l.map λx=>Value.int .u8 (x.toNat:Int)
theorem KX (l:List UInt8):(XF l).length=l.length:=by simp [XF]
def On (w : World) : Prop := Lib.TabIs Tryz.prog w "internal/strconv.uint64pow10" .u64 Lib.pow10Tab
theorem R6 (zq:Nat) (hZ:zq=24) (b u:Nat) (T:TypeId) (w:World) (hb:w.heap[b]?=some (.cells (List.replicate zq (Value.int .u8 0)).toArray T (0,0))) (hu:u<18446744073709551616) :
    Calls prog 264 #[.slice (some ⟨b,0,none⟩) (Lib.nDigits u) 24,.int .u64 u] w λe w'=>e=.returned (.tuple #[])/\Kc w w' (some b)/\∃o,w'.heap[b]?=some o/\F5 0 (XF (Lib.decDigits u)) o:=by
  have hnd:=Lib.nDigits_le20 u hu
  have hH:Go.Sort.Holds (λ(b:UInt8)=>Value.int .u8 (b.toNat:Int)) w b 0 (Array.replicate (Lib.nDigits u) (0:UInt8)):=λj hj=>by
    have hj':j<Lib.nDigits u:=by simpa using hj
    refine ⟨?_,by simp [World.frozen?,hb]⟩
    rw [cell_of_row w b _ _ T (0,0) hb,getElem!_pos _ j hj]
    simp [show j<zq by omega]
  have h:=Tryz.internal_strconv_formatBase10 b 0 24 u (Array.replicate (Lib.nDigits u) 0) w hH (by rw [Array.size_replicate];exact Lib.lt_pow_nDigits u) hu (by rw [Array.size_replicate];omega)
  rw [Array.size_replicate] at h
  refine h.mono ?_
  rintro e w' ⟨rfl,n,v',dk,rfl,hF⟩
  refine ⟨rfl,⟨⟨rfl,rfl,rfl,by simp [Go.Sort.putRow,Go.Sort.mapBlock],λk hk hne=>?_⟩,(by show w.drawn<=w.drawn+n;omega)⟩,_,(by simp only [World.heap_drewN,Go.Sort.putRow,Go.Sort.mapBlock,Array.getElem?_modify,hb,if_true,Option.map_some,Go.Sort.onCells]:_=some (.cells (Go.Sort.putCells (λ(b:UInt8)=>Value.int .u8 (b.toNat:Int)) 0 dk (List.replicate zq (Value.int .u8 0)).toArray) T (0,0))),_,T,(0,0),rfl,?_⟩
  · have:b≠k:=λe=>hne (by rw [e])
    simp [Go.Sort.putRow,Go.Sort.mapBlock,Array.getElem?_modify,this]
  · have hsz:dk.size=Lib.nDigits u:=hF.size
    rw [KX,Lib.decDigits_length]
    apply List.ext_getElem?
    intro j
    by_cases hj:j<Lib.nDigits u
    · have hjd:j<(Lib.decDigits u).length:=by rw [Lib.decDigits_length];exact hj
      rw [List.drop_zero,List.getElem?_take_of_lt hj,Array.getElem?_toList]
      have e1:=Lib.row_is_numeral hF j hjd
      simp only [XF,List.getElem?_map,List.getElem?_eq_getElem hjd,e1,Option.map_some]
      simp [Go.Sort.putCells,hj,hsz,show j<zq by omega]
    · rw [List.getElem?_take_eq_none Z,List.getElem?_eq_none (by rw [KX,Lib.decDigits_length];omega)]
theorem TS (b u:Nat) (T:TypeId) (w:World) (hb:w.heap[b]?=some (.cells (List.replicate 24 (Value.int .u8 0)).toArray T (0,0))) (hu:u<18446744073709551616) :
    Calls prog 264 #[.slice (some ⟨b,0,none⟩) (Lib.nDigits u) 24,.int .u64 u] w λe w'=>e=.returned (.tuple #[])/\Kc w w' (some b)/\∃o,w'.heap[b]?=some o/\F5 0 (XF (Lib.decDigits u)) o:=R6 24 rfl b u T w hb hu
theorem On.below {w w':World} (h:On w) (hb:GG w.heap.size w w'):On w':=by
  unfold On Lib.TabIs World.var? at *
  cases hg : Tryz.prog.globalNamed "internal/strconv.uint64pow10" with
  | none=>simp [hg] at h
  | some g =>
    simp only [hg,Option.bind_some] at h ⊢
    have hlt:g<w.heap.size:=by
      rcases Nat.lt_or_ge g w.heap.size with h'|h'
      · exact h'
      · rw [Array.getElem?_eq_none h'] at h;simp at h
    rw [hb.block g hlt]
    exact h
theorem VI (u:Nat) (h1:1<=u) (h2:u<18446744073709551616) (w:World) (hT:On w):Calls prog 263 #[vK .u64 u] w (Ah w (vN (Lib.nDigits u))) :=
  (Tryz.internal_strconv_numDigits u h1 h2 w hT).mono λe w' h=>⟨h.1,h.2▸GG.refl _ _⟩
theorem R9 (i:Nat) (h:i<100) (w:World):Calls prog 262 #[vN i] w (Ah w (.string (txB (Lib.decDigits i)))) :=
  (Tryz.internal_strconv_small i h w).mono λe w' h=>⟨h.1,h.2▸GG.refl _ _⟩
section
variable {ops:Array Oper} {rest:List Oper} {Q:Exit->Act->World->Prop} {n:Nat} {F:List (Nat×Value)} {w0:A_} {L:List As} {t:TypeId} {p:String} {af:Array Edge} {d:Option Tmp} {g:Option (Nat×Bool)} {x:Operand}
theorem OkL.callRow {P:Program} {o:Oper} {f:FuncId} {args:Array Value} {v:Value} (i:Nat) {b:Nat} {T:TypeId} {cs cs':List Value} (hw:Wt ops n F o)
    (he:∀a w,Cn n a F->BD w0 w L->(execOp a.eval o).run P w=.ok (.enter f args) w) (hi:L[i]?=some (AU b T cs))
    (hc:∀w,BD w0 w L->Calls P f args w λe w'=>e=.returned v/\Kc w w' (some b)/\∃o,w'.heap[b]?=some o/\F5 0 cs' o)
    (hd:∀d,o.dst=some d->d<n) (next:OkL P ops rest Q n (match o.dst with|some d=>(d,v)::F|none=>F) w0 (L.set i (AE (some ⟨b,0,none⟩) cs'))):OkL P ops (o::rest) Q n F w0 L:=λa w ha hW=>by
  unfold wpList
  rw [if_pos (hw a ha)]
  left
  unfold Oper.wp
  rw [he a w ha hW,Oper.upon_enter]
  refine (hc w hW).mono ?_
  rintro e w' ⟨rfl,hg,o',hcell,hl⟩
  have hW':=hW.turn hi rfl rfl hg ⟨o',hcell,hl⟩ (y:=AE (some ⟨b,0,none⟩) cs')
  cases hdd:o.dst with
  | none=>rw [hdd] at next;exact next _ _ ha.put_none hW'
  | some d=>rw [hdd] at next;exact next _ _ (ha.put (hd d hdd)) hW'
theorem Ey {P:Program} {tx e:TypeId} {b len k m:Nat} {ki:IntKind} {hi:Operand} (hx:evF F x=some (.pointer (some ⟨b,0,none⟩))) (hh:evF F hi=some (.int ki (m:Nat))) (hu:P.underlying tx=some (.array len e)) (hs:∀w,(sizeOf e).run P w=.ok k w) (hm:m<=len) (h0:0<len) :
    Ex P n F w0 L ⟨d,.slice tx x none (some hi) none,t,p,af,g⟩ (.slice (some ⟨b,0,none⟩) m len):=λA w ha _=>by
  have e1:¬len=0:=by omega
  simp [execOp,ha.ev hx,ha.ev hh,Instr.sliceAt,run_underlying hu,Instr.sureAddr,Instr.sliceBounds,Instr.sliceBound,asIntOf,hs,e1,hm,Addr.add_lit]
theorem Kj {P:Program} {src dst e:TypeId} {b k:Nat} {cap m:Nat} {l:List UInt8} (hx:evF F x=some (.slice (some ⟨b,0,none⟩) m cap)) (hm:m=l.length) (hi:L[k]?=some (AE (some ⟨b,0,none⟩) (XF l))) (hs:P.underlying src=some (.slice e)) (he:P.underlying e=some (.int .u8)) (hd:P.underlying dst=some .string) :
    Ex P n F w0 L ⟨d,.convert src dst x,t,p,af,g⟩ (.string (txB l)):=λA w hf hW=>by
  subst hm
  have h:=run_convert_bytes_back (P:=P) w src dst e ⟨b,0,none⟩ cap l hs he hd (λj hj=>by
    obtain ⟨o,ho,hp⟩:=hW.holds hi b rfl
    rw [Addr.add_lit]
    exact F5.cell hp ho (by simp [XF,hj]))
  simp only [execOp,hf.ev hx,Sem.run_bind,h,Result.andThen_ok,Sem.run_pure]
  rfl
end
end
section
set_option maxRecDepth 100000
theorem M_ (n:Nat) (hn:n<18446744073709551616) (w:World) (hT:On w):Calls prog 230 #[(vK .u64 n),(vI 10)] w (Ah w (Value.string (txB (Lib.decDigits n)))):=by
 have hnd:=Lib.nDigits_le20 n hn
 refine Ab (args:=[(vK .u64 n),(vI 10)]) func230 O O (AI O) (OkC.subF (sL [0,1] O) (q4 (asg' O (OkL.nil (q1 (q4 (AM O (AH (BG (c:=true) O O (by decide)) O (OkL.nil (OkQ.subF (sL [0,1,4,10] O) (OkQ.then_ ?_)))))))))))
 refine OkC.cond_true O (OkC.seq (q4 (AM O (AH (Ae (c:=(decide (n<100))) O O (CB (a:=n) (b:=100))) O (OkL.nil (OkQ.subF (sL [0,1,4,12] O) (OkQ.then_ ?_)))))))
 refine OkC.cond O (λhc1=>?_) (λhc1=>?_)
 ·replace hc1:=of_decide_eq_true hc1
  exact q4 (AM O (AH (Aw (c:=((n:Nat):Int)) O underlying69 underlying3 (Ec Z)) O (ck' call262 (R9 n Z) O (asg' O (OkL.nil (OkQ.subF (sL [0,1,4] O) (OkQ.then_ (OkC.ret (OkQ.then_ret (OkQ.then_ret (ret_one O (rd_tmp (v:=(Value.string (txB (Lib.decDigits n)))) O) (λw hw=>⟨rfl,hw.out⟩))))))))))))
 ·replace hc1:=of_decide_eq_false hc1
  refine OkC.skip (q2 (al ZV O λb1=>OkL.nil (q2 (AM O (Ce call263 (λw hw=>VI n Z Z w (hT.below hw.out)) O (asg' O (q3 (sL [0,1,4,5,6] O) (AM O (AH (v:=(Value.slice (some ⟨b1,0,none⟩) (Lib.nDigits n) 24)) (Ey (len:=24) (m:=Lib.nDigits n) O O underlying331 sizeOf5 Z (by decide)) O (AM O ?_))))))))))
  exact OkL.callRow 0 (cs':=XF (Lib.decDigits n)) (v:=(Value.tuple #[])) (AP O) (Ap (args:=[(Value.slice (some ⟨b1,0,none⟩) (Lib.nDigits n) 24),(vK .u64 n)]) O O call264) O (λw hw=>TS _ _ 331 w (hw.get (i:=0) O) hn) (λd hd=>by cases hd<;>exact (AI O)) (q3 (sL [0,1,4,5,6] O) (AM O (AH (v:=(Value.slice (some ⟨b1,0,none⟩) (Lib.nDigits n) 24)) (Ey (len:=24) (m:=Lib.nDigits n) O O underlying331 sizeOf5 Z (by decide)) O (AH (v:=(Value.string (txB (Lib.decDigits n)))) (Kj (k:=0) O (Lib.decDigits_length n).symm O underlying86 underlying5 underlying9) O (asg' O (OkL.nil (OkQ.subF (sL [0,1,4,5,6] O) (OkQ.then_ (OkC.ret (OkQ.then_ret (ret_one O (rd_tmp (v:=(Value.string (txB (Lib.decDigits n)))) O) (λw hw=>⟨rfl,hw.out⟩))))))))))))
theorem O6 (n:Nat) (hn:n<18446744073709551616) (w:World) (hT:On w):Calls prog 186 #[(vK .u64 n),(vI 10)] w (Ah w (Value.string (txB (Lib.decDigits n)))):=by
 refine Ab (args:=[(vK .u64 n),(vI 10)]) func186 O O (AI O) (OkC.subF (sL [0,1] O) (q4 (asg' O (OkL.nil (q2 (AM O (AM O (Ce call230 (λw hw=>M_ n Z w (hT.below hw.out)) O (asg' O (OkL.nil (OkQ.subF (sL [4] O) ?_)))))))))))
 exact OkQ.then_ (OkC.ret (ret_one O (rd_tmp (v:=(Value.string (txB (Lib.decDigits n)))) O) (λw hw=>⟨rfl,hw.out⟩)))
end
theorem Gb {k:Nat} (h:k<10):(UInt8.ofNat (48+k)).toNat=48+k:=by
  rw [UInt8.toNat_ofNat']
  exact Nat.mod_eq_of_lt Z
theorem SV:∀(u:Nat) {c:UInt8},c∈Lib.decDigits u->48<=c.toNat/\c.toNat<=57:=λu=>by
  induction u using Nat.strongRecOn with
  | _ u ih =>
    intro c hc
    by_cases h:u<10
    · rw [Lib.decDigits,dif_pos h,List.mem_singleton] at hc
      subst hc
      rw [Gb h];omega
    · rw [Lib.decDigits,dif_neg h] at hc
      rcases List.mem_append.1 hc with hc|hc
      · exact ih _ Z hc
      · rcases List.mem_singleton.1 hc with rfl
        rw [Gb (Nat.mod_lt _ (by decide))];omega
def vD (l:List UInt8):Nat:=l.foldl (λa c=>a*10+(c.toNat-48)) 0
theorem Uo (u:Nat):vD (Lib.decDigits u)=u:=by
  induction u using Nat.strongRecOn with
  | _ u ih =>
    by_cases h:u<10
    · rw [Lib.decDigits,dif_pos h]
      show 0*10+((UInt8.ofNat (48+u)).toNat-48)=u
      rw [Gb h];omega
    · rw [Lib.decDigits,dif_neg h]
      have h1:=ih (u/10) Z
      unfold vD at h1 ⊢
      rw [List.foldl_append,h1]
      show u/10*10+((UInt8.ofNat (48+u%10)).toNat-48)=u
      rw [Gb (Nat.mod_lt _ (by decide))];omega
theorem Lr {u v:Nat} (h:Lib.decDigits u=Lib.decDigits v):u=v:=by rw [<-Uo u,h,Uo]
theorem NY (u:Nat) (l:List UInt8):Lib.decDigits u≠45::l:=λh=>by
  have:=(SV u (c:=45) (by rw [h];exact List.mem_cons_self)).1
  exact absurd this (by decide)
theorem V4 {y z:Int} (h:txI y=txI z):y=z:=by
  unfold txI at h
  split at h<;>split at h
  · injection h with _ h
    have:=Lr h;omega
  · exact absurd h.symm (NY _ _)
  · exact absurd h (NY _ _)
  · have:=Lr h;omega
theorem MW (z:Int):∀c∈txI z,(c != 47)=true:=λc hc=>by
  have key:∀u,c∈Lib.decDigits u->(c != 47)=true:=λu hu=>by
    have h1:=(SV u hu).1
    rw [bne_iff_ne]
    rintro rfl
    exact absurd h1 (by decide)
  unfold txI at hc
  split at hc
  · rcases List.mem_cons.1 hc with rfl|hc
    · decide
    · exact key _ hc
  · exact key _ hc
theorem Np (q:Rat):(Mr q).takeWhile (· != 47)=txI q.num:=by
  unfold Mr
  split
  · have h:=List.takeWhile_append_of_pos (l₂:=[]) (MW q.num)
    simpa using h
  · rw [List.takeWhile_append_of_pos (MW q.num)]
    simp
theorem NK (q:Rat):(Mr q).dropWhile (· != 47)=if q.den-1=0 then [] else 47::Lib.decDigits q.den:=by
  unfold Mr
  split
  · have h:=List.dropWhile_append_of_pos (l₂:=[]) (MW q.num)
    simpa using h
  · rw [List.dropWhile_append_of_pos (MW q.num)]
    simp
theorem Vu {q r:Rat} (h:Mr q=Mr r):q=r:=by
  have h1:txI q.num=txI r.num:=by rw [<-Np,h,Np]
  have h2:=NK q
  rw [h,NK] at h2
  have hq:=q.den_pos
  have hr:=r.den_pos
  refine Rat.ext (V4 h1) ?_
  split at h2<;>split at h2
  · omega
  · cases h2
  · cases h2
  · injection h2 with _ h2
    exact (Lr h2).symm
theorem WV (a b:List UInt8):((txB a).toList == (txB b).toList)=(a == b):=by
  rw [ByteArray.toList_eq,ByteArray.toList_eq];rfl
theorem Vj (q r:Rat):((txB (Mr q)).toList == (txB (Mr r)).toList)=decide (q=r):=by
  rw [WV]
  by_cases h:q=r
  · rw [h];simp
  · rw [decide_eq_false h,beq_eq_false_iff_ne]
    exact λk=>h (Vu k)
section
set_option maxRecDepth 100000
theorem Lu {n:Nat} (h:n<18446744073709551616):(Lib.decDigits n).length<=20:=by rw [Lib.decDigits_length];exact Lib.nDigits_le20 n h
theorem WQ {z:Int} (h:z.natAbs<18446744073709551616):(txI z).length<=21:=by
 have:=Lu h
 unfold txI;split<;>simp<;>omega
theorem IF (n:Nat) (hn:n<18446744073709551616) (w:World) (hT:On w):Calls prog 132 #[(aG (AS n))] w (Ah w (Value.string (txB (Lib.decDigits n)))):=by
 refine Ab (args:=[(aG (AS n))]) func132 O O (AI O) (OkC.subF (sL [0] O) (q4 (Be (cs:=AS n) O λb1=>asg' O (q6 (sL [1,2] O) (q4 (AH (v:=(pP b1 1)) (AA O underlying71 O sizeOf9 O) O (Au 0 (Value.string (Bc n)) SB O (AH (Bg (c:=(decide (n<18446744073709551616))) O O CJ) O (OkL.nil (OkQ.subF (sL [1,2,10] O) ?_))))))))))
 refine OkQ.then_ ?_
 refine OkC.cond O (λhc0=>?_) (λhc0=>?_)
 ·replace hc0:=of_decide_eq_true hc0
  exact q4 (AH (v:=(pP b1 0)) (AA O underlying71 O sizeOf69 O) O (Au 0 (vK .u64 (Bo n)) GZ O (OkL.retell (k:=12) (u:=(vK .u64 n)) O (by rw [BZ Z]) (Ce call186 (λw hw=>O6 n Z w (hT.below hw.out)) O (asg' O (OkL.nil (OkQ.subF (sL [1,2] O) (OkQ.then_ (OkC.ret (OkQ.then_ret (ret_one O (rd_tmp (v:=(Value.string (txB (Lib.decDigits n)))) O) (λw hw=>⟨rfl,hw.out⟩))))))))))))
 ·replace hc0:=of_decide_eq_false hc0
  exfalso;omega
theorem K8 (z:Int) (hz:z.natAbs<18446744073709551616) (w:World) (hT:On w):Calls prog 131 #[(aG (A9 z))] w (Ah w (Value.string (txB (txI z)))):=by
 have hl:=Lu hz
 refine Ab (args:=[(aG (A9 z))]) func131 O O (AI O) (OkC.subF (sL [0] O) (q4 (Be (cs:=A9 z) O λb1=>asg' O (q6 (sL [1,2] O) (q4 (AH (v:=(pP b1 2)) (AA O underlying75 O sizeOf4 O) O (Au 0 (Value.bool (decide (z<0))) Kx O (OkL.nil (OkQ.subF (sL [1,2,4] O) (OkQ.then_ ?_))))))))))
 refine OkC.cond O (λhc0=>?_) (λhc0=>?_)
 ·replace hc0:=of_decide_eq_true hc0
  have he:txI z=45::Lib.decDigits z.natAbs:=by unfold txI;rw [if_pos hc0]
  exact q4 (AH (v:=(pP b1 0)) (AA O underlying75 O sizeOf73 O) O (AH (v:=(pP b1 0)) (AA O underlying73 O sizeOf71 O) O (Ei 0 (AS z.natAbs) By O (Ce call132 (λw hw=>IF z.natAbs Z w (hT.below hw.out)) O (AH (v:=(Value.string (txB (45::Lib.decDigits z.natAbs)))) (CL (r:=(txB (45::Lib.decDigits z.natAbs))) O O (by rw [DK];show 1+_<=_;omega) (DS [45] _)) O (asg' O (OkL.nil (OkQ.subF (sL [1,2] O) (OkQ.then_ (OkC.ret (OkQ.then_ret (ret_one O (rd_tmp (v:=(Value.string (txB (45::Lib.decDigits z.natAbs)))) O) (λw hw=>⟨by rw [he],hw.out⟩)))))))))))))
 ·replace hc0:=of_decide_eq_false hc0
  have he:txI z=Lib.decDigits z.natAbs:=by unfold txI;rw [if_neg hc0]
  exact OkC.skip (q2 (AH (v:=(pP b1 0)) (AA O underlying75 O sizeOf73 O) O (AH (v:=(pP b1 0)) (AA O underlying73 O sizeOf71 O) O (Ei 0 (AS z.natAbs) By O (Ce call132 (λw hw=>IF z.natAbs Z w (hT.below hw.out)) O (asg' O (OkL.nil (OkQ.subF (sL [1,2] O) (OkQ.then_ (OkC.ret (ret_one O (rd_tmp (v:=(Value.string (txB (Lib.decDigits z.natAbs)))) O) (λw hw=>⟨by rw [he],hw.out⟩))))))))))))
theorem Q5 (q:Rat) (hn:q.num.natAbs<18446744073709551616) (hd:q.den<18446744073709551616) (w:World) (hT:On w):Calls prog 77 #[(aG (AZ q))] w (Ah w (Value.string (txB (Mr q)))):=by
 have hl1:=WQ hn
 have hl2:=Lu hd
 have hdn:nw q.den<=1099511627776:=Nat.le_trans (CW.2 (show q.den<4294967296^2 from hd)) (by decide)
 refine Ab (args:=[(aG (AZ q))]) func77 O O (AI O) (OkC.subF (sL [0] O) (q4 (Be (cs:=AZ q) O λb1=>asg' O (q6 (sL [1,2] O) (q4 (BH 0 Cq O (ck' call130 (F7 q) O (OkL.nil (OkQ.subF (sL [1,2,4] O) (OkQ.then_ ?_))))))))))
 refine OkC.cond O (λhc0=>?_) (λhc0=>?_)
 ·replace hc0:=of_decide_eq_true hc0
  have he:Mr q=txI q.num:=by unfold Mr;rw [if_pos hc0]
  exact q4 (AH (v:=(pP b1 0)) (AA O underlying77 O sizeOf75 O) O (Ei 0 (A9 q.num) EE O (Ce call131 (λw hw=>K8 q.num Z w (hT.below hw.out)) O (asg' O (OkL.nil (OkQ.subF (sL [1,2] O) (OkQ.then_ (OkC.ret (OkQ.then_ret (ret_one O (rd_tmp (v:=(Value.string (txB (txI q.num)))) O) (λw hw=>⟨by rw [he],hw.out⟩)))))))))))
 ·replace hc0:=of_decide_eq_false hc0
  have he:Mr q=txI q.num++[47]++Lib.decDigits q.den:=by unfold Mr;rw [if_neg hc0,List.append_assoc];rfl
  refine OkC.skip (q1 (Cd [(0,true),(1,true),(4,true),(2,false),(3,true),(5,false),(6,false),(7,true),(8,true)] sr (Al (v:=(pP b1 0)) O (AA O underlying77 O sizeOf75 O) (Ff 0 (A9 q.num) EE O (Ev 0 Cq O (OkE.imp O (Ce call131 (λw hw=>K8 q.num Z w (hT.below hw.out)) O (OkE.back sr (Al (v:=(Value.string (txB (txI q.num++[47])))) O (CL (r:=(txB (txI q.num++[47]))) O O (by rw [DK];show _+1<=_;omega) (DS _ [47])) (OkE.imp O (ck' call133 (den_ok q Z) O ?_)))))))))))
  exact OkE.back sr (OkE.imp O (Ce call132 (λw hw=>IF q.den Z w (hT.below hw.out)) O (OkE.back sr (Al (v:=(Value.string (txB (txI q.num++[47]++Lib.decDigits q.den)))) O (CL (r:=(txB (txI q.num++[47]++Lib.decDigits q.den))) O O (by rw [DK,DK,List.length_append,List.length_singleton];omega) (DS _ _)) (pS' O (OkE.nil (OkQ.subF (sL [1,2] O) (OkQ.then_ (OkC.ret (ret_one O (rd_tmp (v:=(Value.string (txB (txI q.num++[47]++Lib.decDigits q.den)))) O) (λw hw=>⟨by rw [he],hw.out⟩)))))))))))
def FW (q:Rat):Prop:=q.num.natAbs<18446744073709551616/\q.den<18446744073709551616
def PW (p:Pt):Prop:=FW p.x/\FW p.y
theorem T9 {n:Int} {k:Nat} (hk:k≠0) (hn:n.natAbs<18446744073709551616) (hk2:k<18446744073709551616):FW ((n:Rat)/((k:Int):Rat)):=by
 have e:(n:Rat)/((k:Int):Rat)=mkRat n k:=by
  rw [<-Rat.divInt_eq_div];rfl
 rw [e,Rat.mkRat_def,dif_neg hk]
 refine ⟨Nat.lt_of_le_of_lt ?_ hn,Nat.lt_of_le_of_lt ?_ hk2⟩
 ·rw [Rat.normalize_eq]
  show (n/((n.natAbs.gcd k:Nat):Int)).natAbs<=_
  rw [Int.natAbs_ediv_of_dvd (Int.ofNat_dvd_left.2 (Nat.gcd_dvd_left _ _))]
  exact Nat.div_le_self _ _
 ·rw [Rat.normalize_eq]
  exact Nat.div_le_self _ _
theorem Ta {q:QD} (h:q.ok):FW (In q):=by
 obtain ⟨h1,h2,h3⟩:=h
 exact T9 Z Z Z
theorem Wa {p:PD} (h:p.ok):PW (GE p):=⟨Ta h.1,Ta h.2⟩
theorem MS (q:Rat) {r:Rat} (b:FX r) (hs:FW q) (hr:Sz r<=16777216) (w:World) {S:Nat->Prop} (hb:Ro S w b) (hT:On w):Calls prog 30 #[(aG (AZ q)),(aG (fxL b))] w (Ah w (Value.bool (decide (q=r)))):=by
 obtain ⟨hs1,hs2⟩:=hs
 have lb:=CI (W:=w) hb
 refine AY (args:=[(aG (AZ q)),(aG (fxL b))]) (L:=[B1 b.z.n,B1 b.m]) func30 O O (AI O) (N0 hb Aj) (OkC.subF (sL [0,1] O) (q4 (Be (cs:=AZ q) O λb1=>Be (cs:=fxL b) O λb2=>asg' O (q6 (sL [2,3,4] O) (Cd [(0,true),(2,true),(1,false),(3,false),(4,true),(5,true)] sr (Ev 1 Cq O (Ev 0 Dc O (OkE.imp O (Ce call77 (λw hw=>Q5 q Z Z w (hT.below hw.out)) O ?_)))))))))
 exact OkE.back sr (OkE.imp O (Ce call87 (λw hw=>Sr b Z w (inS hw 2 O lb)) O (OkE.back sr (Al O (Bg (c:=(decide (q=r))) O O (Vj _ _)) (pS' O (OkE.nil (OkQ.subF (sL [4] O) (OkQ.then_ (OkC.ret (ret_one O (rd_tmp (v:=(Value.bool (decide (q=r)))) O) (λw hw=>⟨rfl,hw.out⟩)))))))))))
theorem Tq (p q:Pt):decide (p=q)=(decide (p.x=q.x)&&decide (p.y=q.y)):=by
 rw [Bool.eq_iff_iff]
 simp only [Bool.and_eq_true,decide_eq_true_eq]
 exact ⟨λh=>by rw [h];exact ⟨rfl,rfl⟩,λh=>Pt.ext h.1 h.2⟩
theorem YO (p:Pt) {q:Pt} (b:PX q) (hs:PW p) (hr:Ds q<=16777216) (w:World) {S:Nat->Prop} (hb:Ro S w b) (hT:On w):Calls prog 49 #[(aG (BC p)),(aG (EP b))] w (Ah w (Value.bool (decide (p=q)))):=by
 obtain ⟨hs1,hs2⟩:=hs
 have gx:=E1 q
 have gy:=E7 q
 have lb:=CI (W:=w) hb
 refine AY (args:=[(aG (BC p)),(aG (EP b))]) (L:=[B1 b.x.z.n,B1 b.x.m,B1 b.y.z.n,B1 b.y.m]) func49 O O (AI O) (W_ hb Aj) (OkC.subF (sL [0,1] O) (q4 (Be (cs:=BC p) O λb1=>Be (cs:=EP b) O λb2=>asg' O (q6 (sL [2,3,4] O) ?_))))
 by_cases hx:p.x=q.x
 ·skip
  refine OkC.region (AH (v:=(pP b1 0)) (AA O underlying99 O sizeOf77 O) O (Ei 1 (AZ p.x) Cq O (AH (v:=(pP b2 0)) (AA O underlying121 O sizeOf83 O) O (Ei 0 (fxL b.x) Dc O (Ce (args:=[(aG (AZ p.x)),(aG (fxL b.x))]) (v:=(Value.bool true)) call30 (λw hw=>(by have h9:=MS p.x b.x (by assumption) Z w (W7 (inS hw 2 O lb)) (hT.below hw.out);rw [decide_eq_true hx] at h9;exact h9)) O (AM O (OkL.step (v:=(pP b1 5)) (AB O) (AA O underlying99 O sizeOf77 O) O (AI O) (OkL.step (v:=(aG (AZ p.y))) (AB O) (A6 (i:=1) (vs:=AZ p.y) O O Cq.a Cq.s O O) O (AI O) (OkL.step (v:=(pP b2 3)) (AB O) (AA O underlying121 O sizeOf83 O) O (AI O) (OkL.step (v:=(aG (fxL b.y))) (AB O) (A6 (i:=0) (vs:=fxL b.y) O O Dc.a Dc.s O O) O (AI O) (OkL.call (v:=(Value.bool (decide (p.y=q.y)))) (AB O) (Ap (args:=[(aG (AZ p.y)),(aG (fxL b.y))]) O O call30) (λw hw=>MS p.y b.y (by assumption) Z w (X0 (inS hw 2 O lb)) (hT.below hw.out)) O (AI O) ?_)))))))))))
  exact AH (v:=(Value.bool (decide (p.y=q.y)))) (AO O O) O (asg' O (OkL.nil (OkQ.subF (sL [4] O) (OkQ.then_ (OkC.ret (ret_one O (rd_tmp (v:=(Value.bool (decide (p.y=q.y)))) O) (λw hw=>⟨by rw [Tq];simp [hx],hw.out⟩)))))))
 ·skip
  refine OkC.region (AH (v:=(pP b1 0)) (AA O underlying99 O sizeOf77 O) O (Ei 1 (AZ p.x) Cq O (AH (v:=(pP b2 0)) (AA O underlying121 O sizeOf83 O) O (Ei 0 (fxL b.x) Dc O (Ce (args:=[(aG (AZ p.x)),(aG (fxL b.x))]) (v:=(Value.bool false)) call30 (λw hw=>(by have h9:=MS p.x b.x (by assumption) Z w (W7 (inS hw 2 O lb)) (hT.below hw.out);rw [decide_eq_false hx] at h9;exact h9)) O (AM O (OkL.skip (AC O) O (AI O) (OkL.skip (AC O) O (AI O) (OkL.skip (AC O) O (AI O) (OkL.skip (AC O) O (AI O) (OkL.skip (AC O) O (AI O) ?_)))))))))))
  exact AH (v:=(Value.bool false)) (AJ O O) O (asg' O (OkL.nil (OkQ.subF (sL [4] O) (OkQ.then_ (OkC.ret (ret_one O (rd_tmp (v:=(Value.bool false)) O) (λw hw=>⟨by rw [Tq];simp [hx],hw.out⟩)))))))
end
end Go.Proofs.YtpolhpjiahbidaaGreatDoor
