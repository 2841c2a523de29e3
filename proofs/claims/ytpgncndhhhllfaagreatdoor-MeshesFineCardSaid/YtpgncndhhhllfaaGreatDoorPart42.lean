import Derived.Lib.ItoaLen
import Derived.Laws.IdiomStrings
import Derived.Laws.Strings
import Derived.Test.YtpgncndhhhllfaaGreatDoorPart03
import Derived.Test.YtpgncndhhhllfaaGreatDoorPart11
import Derived.Test.YtpgncndhhhllfaaGreatDoorPart17
import Derived.Test.YtpgncndhhhllfaaGreatDoorPart18
import Derived.Test.YtpgncndhhhllfaaGreatDoorPart22
import Derived.Test.YtpgncndhhhllfaaGreatDoorPart30
import Derived.Test.YtpgncndhhhllfaaGreatDoorPart35
import Derived.Test.YtpgncndhhhllfaaGreatDoorPart38
import Derived.Test.YtpgncndhhhllfaaGreatDoorPart39
import Derived.Test.YtpgncndhhhllfaaGreatDoorPart40
import Derived.Test.YtpgncndhhhllfaaGreatDoorPart41
namespace Go.Proofs.YtpgncndhhhllfaaGreatDoor
open Go Go.RowKit Go.Proofs.Tryz
set_option linter.unusedVariables false
set_option linter.unusedSimpArgs false
section
def Y5 (l:List UInt8):List Value:=l.map λx=>Value.int .u8 (x.toNat:Int)
theorem La (l:List UInt8):(Y5 l).length=l.length:=by simp [Y5]
def R6 (w : World) : Prop := Lib.TabIs Tryz.prog w "internal/strconv.uint64pow10" .u64 Lib.pow10Tab
theorem TL (zq:Nat) (hZ:zq=24) (b u:Nat) (T:TypeId) (w:World) (hb:w.heap[b]?=some (.cells (List.replicate zq (Value.int .u8 0)).toArray T (0,0))) (hu:u<18446744073709551616) :
    Calls prog 258 #[.slice (some ⟨b,0,none⟩) (Lib.nDigits u) 24,.int .u64 u] w λe w'=>e=.returned (.tuple #[])/\Ji w w' (some b)/\∃o,w'.heap[b]?=some o/\GM 0 (Y5 (Lib.decDigits u)) o:=by
  have hnd:=Lib.nDigits_le20 u hu
  have hH:Go.Sort.Holds (λ(b:UInt8)=>Value.int .u8 (b.toNat:Int)) w b 0 (Array.replicate (Lib.nDigits u) (0:UInt8)):=λj hj=>by
    have hj':j<Lib.nDigits u:=by simpa using hj
    refine ⟨?_,by simp [World.frozen?,hb]⟩
    rw [cell_of_row w b _ _ T (0,0) hb,getElem!_pos _ j hj]
    simp [show j<zq by omega]
  have h:=Tryz.internal_strconv_formatBase10 b 0 24 u (Array.replicate (Lib.nDigits u) 0) w hH (by rw [Array.size_replicate];exact Lib.lt_pow_nDigits u) hu (by rw [Array.size_replicate];omega)
  rw [Array.size_replicate] at h
  refine h.mono ?_
  rintro e w' ⟨rfl,n,v',dk,rfl,hF⟩
  refine ⟨rfl,⟨⟨rfl,rfl,rfl,by simp [Go.Sort.putRow,Go.Sort.mapBlock],λk hk hne=>?_⟩,(by show w.drawn<=w.drawn+n;omega)⟩,_,(by simp only [World.heap_drewN,Go.Sort.putRow,Go.Sort.mapBlock,Array.getElem?_modify,hb,if_true,Option.map_some,Go.Sort.onCells]:_=some (.cells (Go.Sort.putCells (λ(b:UInt8)=>Value.int .u8 (b.toNat:Int)) 0 dk (List.replicate zq (Value.int .u8 0)).toArray) T (0,0))),_,T,(0,0),rfl,?_⟩
  · have:b≠k:=λe=>hne (by rw [e])
    simp [Go.Sort.putRow,Go.Sort.mapBlock,Array.getElem?_modify,this]
  · have hsz:dk.size=Lib.nDigits u:=hF.size
    rw [La,Lib.decDigits_length]
    apply List.ext_getElem?
    intro j
    by_cases hj:j<Lib.nDigits u
    · have hjd:j<(Lib.decDigits u).length:=by rw [Lib.decDigits_length];exact hj
      rw [List.drop_zero,List.getElem?_take_of_lt hj,Array.getElem?_toList]
      have e1:=Lib.row_is_numeral hF j hjd
      simp only [Y5,List.getElem?_map,List.getElem?_eq_getElem hjd,e1,Option.map_some]
      simp [Go.Sort.putCells,hj,hsz,show j<zq by omega]
    · rw [List.getElem?_take_eq_none Z,List.getElem?_eq_none (by rw [La,Lib.decDigits_length];omega)]
theorem Wm (b u:Nat) (T:TypeId) (w:World) (hb:w.heap[b]?=some (.cells (List.replicate 24 (Value.int .u8 0)).toArray T (0,0))) (hu:u<18446744073709551616) :
    Calls prog 258 #[.slice (some ⟨b,0,none⟩) (Lib.nDigits u) 24,.int .u64 u] w λe w'=>e=.returned (.tuple #[])/\Ji w w' (some b)/\∃o,w'.heap[b]?=some o/\GM 0 (Y5 (Lib.decDigits u)) o:=TL 24 rfl b u T w hb hu
theorem R6.below {w w':World} (h:R6 w) (hb:Gj w.heap.size w w'):R6 w':=by
  unfold R6 Lib.TabIs World.var? at *
  cases hg : Tryz.prog.globalNamed "internal/strconv.uint64pow10" with
  | none=>simp [hg] at h
  | some g =>
    simp only [hg,Option.bind_some] at h ⊢
    have hlt:g<w.heap.size:=by
      rcases Nat.lt_or_ge g w.heap.size with h'|h'
      · exact h'
      · rw [Array.getElem?_eq_none h'] at h;simp at h
    rw [hb.block g hlt]
    exact h
theorem Xt (u:Nat) (h1:1<=u) (h2:u<18446744073709551616) (w:World) (hT:R6 w):Calls prog 257 #[vK .u64 u] w (An w (vN (Lib.nDigits u))) :=
  (Tryz.internal_strconv_numDigits u h1 h2 w hT).mono λe w' h=>⟨h.1,h.2▸Gj.refl _ _⟩
theorem Ss (i:Nat) (h:i<100) (w:World):Calls prog 256 #[vN i] w (An w (.string (txB (Lib.decDigits i)))) :=
  (Tryz.internal_strconv_small i h w).mono λe w' h=>⟨h.1,h.2▸Gj.refl _ _⟩
section
variable {ops:Array Oper} {rest:List Oper} {Q:Exit->Act->World->Prop} {n:Nat} {F:List (Nat×Value)} {w0:BJ} {L:List As} {t:TypeId} {p:String} {af:Array Edge} {d:Option Tmp} {g:Option (Nat×Bool)} {x:Operand}
theorem AE.callRow {P:Program} {o:Oper} {f:FuncId} {args:Array Value} {v:Value} (i:Nat) {b:Nat} {T:TypeId} {cs cs':List Value} (hw:Wt ops n F o)
    (he:∀a w,C6 n a F->BN w0 w L->(execOp a.eval o).run P w=.ok (.enter f args) w) (hi:L[i]?=some (Ag b T cs))
    (hc:∀w,BN w0 w L->Calls P f args w λe w'=>e=.returned v/\Ji w w' (some b)/\∃o,w'.heap[b]?=some o/\GM 0 cs' o)
    (hd:∀d,o.dst=some d->d<n) (next:AE P ops rest Q n (match o.dst with|some d=>(d,v)::F|none=>F) w0 (L.set i (AQ (some ⟨b,0,none⟩) cs'))):AE P ops (o::rest) Q n F w0 L:=λa w ha hW=>by
  unfold wpList
  rw [if_pos (hw a ha)]
  left
  unfold Oper.wp
  rw [he a w ha hW,Oper.upon_enter]
  refine (hc w hW).mono ?_
  rintro e w' ⟨rfl,hg,o',hcell,hl⟩
  have hW':=hW.turn hi rfl rfl hg ⟨o',hcell,hl⟩ (y:=AQ (some ⟨b,0,none⟩) cs')
  cases hdd:o.dst with
  | none=>rw [hdd] at next;exact next _ _ ha.put_none hW'
  | some d=>rw [hdd] at next;exact next _ _ (ha.put (hd d hdd)) hW'
theorem FG {P:Program} {tx e:TypeId} {b len k m:Nat} {ki:IntKind} {hi:Operand} (hx:evF F x=some (.pointer (some ⟨b,0,none⟩))) (hh:evF F hi=some (.int ki (m:Nat))) (hu:P.underlying tx=some (.array len e)) (hs:∀w,(sizeOf e).run P w=.ok k w) (hm:m<=len) (h0:0<len) :
    Ex P n F w0 L ⟨d,.slice tx x none (some hi) none,t,p,af,g⟩ (.slice (some ⟨b,0,none⟩) m len):=λA w ha _=>by
  have e1:¬len=0:=by omega
  simp [execOp,ha.ev hx,ha.ev hh,Instr.sliceAt,run_underlying hu,Instr.sureAddr,Instr.sliceBounds,Instr.sliceBound,asIntOf,hs,e1,hm,Addr.add_lit]
theorem Lw {P:Program} {src dst e:TypeId} {b k:Nat} {cap m:Nat} {l:List UInt8} (hx:evF F x=some (.slice (some ⟨b,0,none⟩) m cap)) (hm:m=l.length) (hi:L[k]?=some (AQ (some ⟨b,0,none⟩) (Y5 l))) (hs:P.underlying src=some (.slice e)) (he:P.underlying e=some (.int .u8)) (hd:P.underlying dst=some .string) :
    Ex P n F w0 L ⟨d,.convert src dst x,t,p,af,g⟩ (.string (txB l)):=λA w hf hW=>by
  subst hm
  have h:=run_convert_bytes_back (P:=P) w src dst e ⟨b,0,none⟩ cap l hs he hd (λj hj=>by
    obtain ⟨o,ho,hp⟩:=hW.holds hi b rfl
    rw [Addr.add_lit]
    exact GM.cell hp ho (by simp [Y5,hj]))
  simp only [execOp,hf.ev hx,Sem.run_bind,h,Result.andThen_ok,Sem.run_pure]
  rfl
end
end
section
set_option maxRecDepth 100000
theorem OJ (n:Nat) (hn:n<18446744073709551616) (w:World) (hT:R6 w):Calls prog 208 #[(vK .u64 n),(vI 10)] w (An w (Value.string (txB (Lib.decDigits n)))):=by
 have hnd:=Lib.nDigits_le20 n hn
 refine Af (args:=[(vK .u64 n),(vI 10)]) func208 O O (AT O) (AF.subF (sL [0,1] O) (q4 (asg' O (AE.nil (q1 ?_)))))
 refine q4 (AM O (AH (BL (c:=true) O O (by decide)) O (AE.nil (AC.subF (sL [0,1,4,10] O) (AC.then_ ?_)))))
 refine AF.cond_true O (AF.seq (q4 (AM O (AH (Ae (c:=(decide (n<100))) O O (CL (a:=n) (b:=100))) O (AE.nil ?_)))))
 refine AC.subF (sL [0,1,4,12] O) (AC.then_ ?_)
 refine AF.cond O (λhc1=>?_) (λhc1=>?_)
 ·replace hc1:=of_decide_eq_true hc1
  refine q4 (AM O (AH (Ay (c:=((n:Nat):Int)) O underlying40 underlying3 (B4 Z)) O (ck' call256 (Ss n Z) O (asg' O (AE.nil ?_)))))
  exact AC.subF (sL [0,1,4] O) (AC.then_ (AF.ret (AC.then_ret (AC.then_ret (AI O (AY (v:=(Value.string (txB (Lib.decDigits n)))) O) (λw hw=>⟨rfl,hw.out⟩))))))
 ·replace hc1:=of_decide_eq_false hc1
  refine AF.skip (q2 (al a_ O λb1=>AE.nil (q2 (AM O ?_))))
  refine Cj call257 (λw hw=>Xt n Z Z w (hT.below hw.out)) O (asg' O (q3 (sL [0,1,4,5,6] O) (AM O (AH (v:=(Value.slice (some ⟨b1,0,none⟩) (Lib.nDigits n) 24)) (FG (len:=24) (m:=Lib.nDigits n) O O underlying327 sizeOf5 Z (by decide)) O (AM O ?_)))))
  refine AE.callRow 0 (cs':=Y5 (Lib.decDigits n)) (v:=(Value.tuple #[])) (AS O) (Ao (args:=[(Value.slice (some ⟨b1,0,none⟩) (Lib.nDigits n) 24),(vK .u64 n)]) O O call258) O (λw hw=>Wm _ _ 327 w (hw.get (i:=0) O) hn) (λd hd=>by cases hd<;>exact (AT O)) (q3 (sL [0,1,4,5,6] O) (AM O (AH (v:=(Value.slice (some ⟨b1,0,none⟩) (Lib.nDigits n) 24)) (FG (len:=24) (m:=Lib.nDigits n) O O underlying327 sizeOf5 Z (by decide)) O (AH (v:=(Value.string (txB (Lib.decDigits n)))) (Lw (k:=0) O (Lib.decDigits_length n).symm O underlying62 underlying5 underlying9) O (asg' O ?_)))))
  exact AE.nil (AC.subF (sL [0,1,4,5,6] O) (AC.then_ (AF.ret (AC.then_ret (AI O (AY (v:=(Value.string (txB (Lib.decDigits n)))) O) (λw hw=>⟨rfl,hw.out⟩))))))
theorem Qc (n:Nat) (hn:n<18446744073709551616) (w:World) (hT:R6 w):Calls prog 159 #[(vK .u64 n),(vI 10)] w (An w (Value.string (txB (Lib.decDigits n)))):=by
 refine Af (args:=[(vK .u64 n),(vI 10)]) func159 O O (AT O) (AF.subF (sL [0,1] O) (q4 (asg' O (AE.nil (q2 ?_)))))
 refine AM O (AM O (Cj call208 (λw hw=>OJ n Z w (hT.below hw.out)) O (asg' O (AE.nil (AC.subF (sL [4] O) ?_)))))
 exact AC.then_ (AF.ret (AI O (AY (v:=(Value.string (txB (Lib.decDigits n)))) O) (λw hw=>⟨rfl,hw.out⟩)))
end
theorem HK {k:Nat} (h:k<10):(UInt8.ofNat (48+k)).toNat=48+k:=by
  rw [UInt8.toNat_ofNat']
  exact Nat.mod_eq_of_lt Z
theorem V9:∀(u:Nat) {c:UInt8},c∈Lib.decDigits u->48<=c.toNat/\c.toNat<=57:=λu=>by
  induction u using Nat.strongRecOn with
  | _ u ih =>
    intro c hc
    by_cases h:u<10
    · rw [Lib.decDigits,dif_pos h,List.mem_singleton] at hc
      subst hc
      rw [HK h];omega
    · rw [Lib.decDigits,dif_neg h] at hc
      rcases List.mem_append.1 hc with hc|hc
      · exact ih _ Z hc
      · rcases List.mem_singleton.1 hc with rfl
        rw [HK (Nat.mod_lt _ (by decide))];omega
def vD (l:List UInt8):Nat:=l.foldl (λa c=>a*10+(c.toNat-48)) 0
theorem VB (u:Nat):vD (Lib.decDigits u)=u:=by
  induction u using Nat.strongRecOn with
  | _ u ih =>
    by_cases h:u<10
    · rw [Lib.decDigits,dif_pos h]
      show 0*10+((UInt8.ofNat (48+u)).toNat-48)=u
      rw [HK h];omega
    · rw [Lib.decDigits,dif_neg h]
      have h1:=ih (u/10) Z
      unfold vD at h1 ⊢
      rw [List.foldl_append,h1]
      show u/10*10+((UInt8.ofNat (48+u%10)).toNat-48)=u
      rw [HK (Nat.mod_lt _ (by decide))];omega
theorem NC {u v:Nat} (h:Lib.decDigits u=Lib.decDigits v):u=v:=by rw [<-VB u,h,VB]
theorem OD (u:Nat) (l:List UInt8):Lib.decDigits u≠45::l:=λh=>by
  have:=(V9 u (c:=45) (by rw [h];exact List.mem_cons_self)).1
  exact absurd this (by decide)
theorem Yd {y z:Int} (h:Fz y=Fz z):y=z:=by
  unfold Fz at h
  split at h<;>split at h
  · injection h with _ h
    have:=NC h;omega
  · exact absurd h.symm (OD _ _)
  · exact absurd h (OD _ _)
  · have:=NC h;omega
theorem NU (z:Int):∀c∈Fz z,(c != 47)=true:=λc hc=>by
  have key:∀u,c∈Lib.decDigits u->(c != 47)=true:=λu hu=>by
    have h1:=(V9 u hu).1
    rw [bne_iff_ne]
    rintro rfl
    exact absurd h1 (by decide)
  unfold Fz at hc
  split at hc
  · rcases List.mem_cons.1 hc with rfl|hc
    · decide
    · exact key _ hc
  · exact key _ hc
theorem O4 (q:Rat):(N3 q).takeWhile (· != 47)=Fz q.num:=by
  unfold N3
  split
  · have h:=List.takeWhile_append_of_pos (l₂:=[]) (NU q.num)
    simpa using h
  · rw [List.takeWhile_append_of_pos (NU q.num)]
    simp
theorem O5 (q:Rat):(N3 q).dropWhile (· != 47)=if q.den-1=0 then [] else 47::Lib.decDigits q.den:=by
  unfold N3
  split
  · have h:=List.dropWhile_append_of_pos (l₂:=[]) (NU q.num)
    simpa using h
  · rw [List.dropWhile_append_of_pos (NU q.num)]
    simp
theorem Xq {q r:Rat} (h:N3 q=N3 r):q=r:=by
  have h1:Fz q.num=Fz r.num:=by rw [<-O4,h,O4]
  have h2:=O5 q
  rw [h,O5] at h2
  have hq:=q.den_pos
  have hr:=r.den_pos
  refine Rat.ext (Yd h1) ?_
  split at h2<;>split at h2
  · omega
  · cases h2
  · cases h2
  · injection h2 with _ h2
    exact (NC h2).symm
theorem YR (a b:List UInt8):((txB a).toList == (txB b).toList)=(a == b):=by
  rw [ByteArray.toList_eq,ByteArray.toList_eq];rfl
theorem Xs (q r:Rat):((txB (N3 q)).toList == (txB (N3 r)).toList)=decide (q=r):=by
  rw [YR]
  by_cases h:q=r
  · rw [h];simp
  · rw [decide_eq_false h,beq_eq_false_iff_ne]
    exact λk=>h (Xq k)
section
set_option maxRecDepth 100000
theorem Nk {n:Nat} (h:n<18446744073709551616):(Lib.decDigits n).length<=20:=by rw [Lib.decDigits_length];exact Lib.nDigits_le20 n h
theorem YL {z:Int} (h:z.natAbs<18446744073709551616):(Fz z).length<=21:=by
 have:=Nk h
 unfold Fz;split<;>simp<;>omega
theorem I3 (n:Nat) (hn:n<18446744073709551616) (w:World) (hT:R6 w):Calls prog 95 #[(aG (Ab n))] w (An w (Value.string (txB (Lib.decDigits n)))):=by
 refine Af (args:=[(aG (Ab n))]) func95 O O (AT O) (AF.subF (sL [0] O) (q4 (BU (cs:=Ab n) O λb1=>asg' O (q6 (sL [1,2] O) ?_))))
 refine q4 (AH (v:=(pP b1 1)) (AA O underlying42 O sizeOf9 O) O (BA 0 (Value.string (Bm n)) TQ O (AH (Bf (c:=(decide (n<18446744073709551616))) O O CY) O (AE.nil (AC.subF (sL [1,2,10] O) ?_)))))
 refine AC.then_ ?_
 refine AF.cond O (λhc0=>?_) (λhc0=>?_)
 ·replace hc0:=of_decide_eq_true hc0
  refine q4 (AH (v:=(pP b1 0)) (AA O underlying42 O sizeOf40 O) O (BA 0 (vK .u64 (B8 n)) Gd O (AE.retell (k:=12) (u:=(vK .u64 n)) O (by rw [Bh Z]) (Cj call159 (λw hw=>Qc n Z w (hT.below hw.out)) O (asg' O ?_)))))
  exact AE.nil (AC.subF (sL [1,2] O) (AC.then_ (AF.ret (AC.then_ret (AI O (AY (v:=(Value.string (txB (Lib.decDigits n)))) O) (λw hw=>⟨rfl,hw.out⟩))))))
 ·replace hc0:=of_decide_eq_false hc0
  exfalso;omega
theorem Md (z:Int) (hz:z.natAbs<18446744073709551616) (w:World) (hT:R6 w):Calls prog 94 #[(aG (BG z))] w (An w (Value.string (txB (Fz z)))):=by
 have hl:=Nk hz
 refine Af (args:=[(aG (BG z))]) func94 O O (AT O) (AF.subF (sL [0] O) (q4 (BU (cs:=BG z) O λb1=>asg' O (q6 (sL [1,2] O) ?_))))
 refine q4 (AH (v:=(pP b1 2)) (AA O underlying46 O sizeOf4 O) O (BA 0 (Value.bool (decide (z<0))) Jt O (AE.nil (AC.subF (sL [1,2,4] O) (AC.then_ ?_)))))
 refine AF.cond O (λhc0=>?_) (λhc0=>?_)
 ·replace hc0:=of_decide_eq_true hc0
  have he:Fz z=45::Lib.decDigits z.natAbs:=by unfold Fz;rw [if_pos hc0]
  refine q4 (AH (v:=(pP b1 0)) (AA O underlying46 O sizeOf44 O) O (AH (v:=(pP b1 0)) (AA O underlying44 O sizeOf42 O) O (Cy 0 (Ab z.natAbs) B7 O (Cj call95 (λw hw=>I3 z.natAbs Z w (hT.below hw.out)) O (AH (v:=(Value.string (txB (45::Lib.decDigits z.natAbs)))) (Bz (r:=(txB (45::Lib.decDigits z.natAbs))) O O (by rw [Di];show 1+_<=_;omega) (Dn [45] _)) O ?_)))))
  exact asg' O (AE.nil (AC.subF (sL [1,2] O) (AC.then_ (AF.ret (AC.then_ret (AI O (AY (v:=(Value.string (txB (45::Lib.decDigits z.natAbs)))) O) (λw hw=>⟨by rw [he],hw.out⟩)))))))
 ·replace hc0:=of_decide_eq_false hc0
  have he:Fz z=Lib.decDigits z.natAbs:=by unfold Fz;rw [if_neg hc0]
  refine AF.skip (q2 (AH (v:=(pP b1 0)) (AA O underlying46 O sizeOf44 O) O (AH (v:=(pP b1 0)) (AA O underlying44 O sizeOf42 O) O (Cy 0 (Ab z.natAbs) B7 O (Cj call95 (λw hw=>I3 z.natAbs Z w (hT.below hw.out)) O ?_)))))
  exact asg' O (AE.nil (AC.subF (sL [1,2] O) (AC.then_ (AF.ret (AI O (AY (v:=(Value.string (txB (Lib.decDigits z.natAbs)))) O) (λw hw=>⟨by rw [he],hw.out⟩))))))
theorem S5 (q:Rat) (hn:q.num.natAbs<18446744073709551616) (hd:q.den<18446744073709551616) (w:World) (hT:R6 w):Calls prog 38 #[(aG (AO q))] w (An w (Value.string (txB (N3 q)))):=by
 have hl1:=YL hn
 have hl2:=Nk hd
 have hdn:nw q.den<=1099511627776:=Nat.le_trans (Cs.2 (show q.den<4294967296^2 from hd)) (by decide)
 refine Af (args:=[(aG (AO q))]) func38 O O (AT O) (AF.subF (sL [0] O) (q4 (BU (cs:=AO q) O λb1=>asg' O (q6 (sL [1,2] O) ?_))))
 refine q4 (BD 0 Bp O (ck' call53 (Fl q) O (AE.nil (AC.subF (sL [1,2,4] O) (AC.then_ ?_)))))
 refine AF.cond O (λhc0=>?_) (λhc0=>?_)
 ·replace hc0:=of_decide_eq_true hc0
  have he:N3 q=Fz q.num:=by unfold N3;rw [if_pos hc0]
  refine q4 (AH (v:=(pP b1 0)) (AA O underlying48 O sizeOf46 O) O (Cy 0 (BG q.num) DF O (Cj call94 (λw hw=>Md q.num Z w (hT.below hw.out)) O (asg' O (AE.nil ?_)))))
  exact AC.subF (sL [1,2] O) (AC.then_ (AF.ret (AC.then_ret (AI O (AY (v:=(Value.string (txB (Fz q.num)))) O) (λw hw=>⟨by rw [he],hw.out⟩)))))
 ·replace hc0:=of_decide_eq_false hc0
  have he:N3 q=Fz q.num++[47]++Lib.decDigits q.den:=by unfold N3;rw [if_neg hc0,List.append_assoc];rfl
  refine AF.skip (q1 (Cd [(0,true),(1,true),(4,true),(2,false),(3,true),(5,false),(6,false),(7,true),(8,true)] sr (Aq (v:=(pP b1 0)) O (AA O underlying48 O sizeOf46 O) (Ff 0 (BG q.num) DF O (Da 0 Bp O ?_)))))
  refine OkE.imp O (Cj call94 (λw hw=>Md q.num Z w (hT.below hw.out)) O (OkE.back sr (Aq (v:=(Value.string (txB (Fz q.num++[47])))) O (Bz (r:=(txB (Fz q.num++[47]))) O O (by rw [Di];show _+1<=_;omega) (Dn _ [47])) (OkE.imp O (ck' call57 (den_ok q Z) O ?_)))))
  refine OkE.back sr (OkE.imp O (Cj call95 (λw hw=>I3 q.den Z w (hT.below hw.out)) O (OkE.back sr (Aq (v:=(Value.string (txB (Fz q.num++[47]++Lib.decDigits q.den)))) O (Bz (r:=(txB (Fz q.num++[47]++Lib.decDigits q.den))) O O (by rw [Di,Di,List.length_append,List.length_singleton];omega) (Dn _ _)) (pS' O ?_)))))
  exact OkE.nil (AC.subF (sL [1,2] O) (AC.then_ (AF.ret (AI O (AY (v:=(Value.string (txB (Fz q.num++[47]++Lib.decDigits q.den)))) O) (λw hw=>⟨by rw [he],hw.out⟩)))))
def FW (q:Rat):Prop:=q.num.natAbs<18446744073709551616/\q.den<18446744073709551616
def PW (p:Pt):Prop:=FW p.x/\FW p.y
theorem V4 {n:Int} {k:Nat} (hk:k≠0) (hn:n.natAbs<18446744073709551616) (hk2:k<18446744073709551616):FW ((n:Rat)/((k:Int):Rat)):=by
 have e:(n:Rat)/((k:Int):Rat)=mkRat n k:=by
  rw [<-Rat.divInt_eq_div];rfl
 rw [e,Rat.mkRat_def,dif_neg hk]
 refine ⟨Nat.lt_of_le_of_lt ?_ hn,Nat.lt_of_le_of_lt ?_ hk2⟩
 ·rw [Rat.normalize_eq]
  show (n/((n.natAbs.gcd k:Nat):Int)).natAbs<=_
  rw [Int.natAbs_ediv_of_dvd (Int.ofNat_dvd_left.2 (Nat.gcd_dvd_left _ _))]
  exact Nat.div_le_self _ _
 ·rw [Rat.normalize_eq]
  exact Nat.div_le_self _ _
theorem WD {q:QD} (h:q.ok):FW (Iy q):=by
 obtain ⟨h1,h2,h3⟩:=h
 exact V4 Z Z Z
theorem Xd {p:PD} (h:p.ok):PW (CC p):=⟨WD h.1,WD h.2⟩
theorem Jw (q:Rat) {r:Rat} (b:FX r) (hs:FW q) (hr:Sz r<=16777216) (w:World) {S:Nat->Prop} (hb:Ro S w b) (hT:R6 w):Calls prog 23 #[(aG (AO q)),(aG (fxL b))] w (An w (Value.bool (decide (q=r)))):=by
 obtain ⟨hs1,hs2⟩:=hs
 have lb:=Cl (W:=w) hb
 refine Ah (args:=[(aG (AO q)),(aG (fxL b))]) (L:=[Be b.z.n,Be b.m]) func23 O O (AT O) (PS hb Ax) (AF.subF (sL [0,1] O) (q4 (BU (cs:=AO q) O λb1=>BU (cs:=fxL b) O λb2=>asg' O ?_)))
 refine q6 (sL [2,3,4] O) (Cd [(0,true),(2,true),(1,false),(3,false),(4,true),(5,true)] sr (Da 1 Bp O (Da 0 D8 O (OkE.imp O (Cj call38 (λw hw=>S5 q Z Z w (hT.below hw.out)) O ?_)))))
 refine OkE.back sr (OkE.imp O (Cj call75 (λw hw=>V_ b Z w (inS hw 2 O lb)) O (OkE.back sr (Aq O (Bf (c:=(decide (q=r))) O O (Xs _ _)) (pS' O ?_)))))
 exact OkE.nil (AC.subF (sL [4] O) (AC.then_ (AF.ret (AI O (AY (v:=(Value.bool (decide (q=r)))) O) (λw hw=>⟨rfl,hw.out⟩)))))
theorem UE (p q:Pt):decide (p=q)=(decide (p.x=q.x)&&decide (p.y=q.y)):=by
 rw [Bool.eq_iff_iff]
 simp only [Bool.and_eq_true,decide_eq_true_eq]
 exact ⟨λh=>by rw [h];exact ⟨rfl,rfl⟩,λh=>Pt.ext h.1 h.2⟩
theorem Iw (p:Pt) {q:Pt} (b:PX q) (hs:PW p) (hr:B_ q<=16777216) (w:World) {S:Nat->Prop} (hb:Ro S w b) (hT:R6 w):Calls prog 31 #[(aG (Am p)),(aG (DE b))] w (An w (Value.bool (decide (p=q)))):=by
 obtain ⟨hs1,hs2⟩:=hs
 have gx:=Ez q
 have gy:=E1 q
 have lb:=Cl (W:=w) hb
 refine Ah (args:=[(aG (Am p)),(aG (DE b))]) (L:=[Be b.x.z.n,Be b.x.m,Be b.y.z.n,Be b.y.m]) func31 O O (AT O) (Yx hb Ax) (AF.subF (sL [0,1] O) (q4 (BU (cs:=Am p) O λb1=>BU (cs:=DE b) O λb2=>asg' O ?_)))
 refine q6 (sL [2,3,4] O) ?_
 by_cases hx:p.x=q.x
 ·skip
  refine AF.region (AH (v:=(pP b1 0)) (AA O underlying51 O sizeOf48 O) O (Cy 1 (AO p.x) Bp O (AH (v:=(pP b2 0)) (AA O underlying83 O sizeOf75 O) O (Cy 0 (fxL b.x) D8 O (Cj (args:=[(aG (AO p.x)),(aG (fxL b.x))]) (v:=(Value.bool true)) call23 (λw hw=>(by have h9:=Jw p.x b.x (by assumption) Z w (Z4 (inS hw 2 O lb)) (hT.below hw.out);rw [decide_eq_true hx] at h9;exact h9)) O ?_)))))
  refine AM O (AE.step (v:=(pP b1 5)) (AB O) (AA O underlying51 O sizeOf48 O) O (AT O) (AE.step (v:=(aG (AO p.y))) (AB O) (Aj (i:=1) (vs:=AO p.y) O O Bp.a Bp.s O O) O (AT O) (AE.step (v:=(pP b2 3)) (AB O) (AA O underlying83 O sizeOf75 O) O (AT O) (AE.step (v:=(aG (fxL b.y))) (AB O) (Aj (i:=0) (vs:=fxL b.y) O O D8.a D8.s O O) O (AT O) (AE.call (v:=(Value.bool (decide (p.y=q.y)))) (AB O) (Ao (args:=[(aG (AO p.y)),(aG (fxL b.y))]) O O call23) (λw hw=>Jw p.y b.y (by assumption) Z w (aV (inS hw 2 O lb)) (hT.below hw.out)) O (AT O) ?_)))))
  exact AH (v:=(Value.bool (decide (p.y=q.y)))) (Ac O O) O (asg' O (AE.nil (AC.subF (sL [4] O) (AC.then_ (AF.ret (AI O (AY (v:=(Value.bool (decide (p.y=q.y)))) O) (λw hw=>⟨by rw [UE];simp [hx],hw.out⟩)))))))
 ·skip
  refine AF.region (AH (v:=(pP b1 0)) (AA O underlying51 O sizeOf48 O) O (Cy 1 (AO p.x) Bp O (AH (v:=(pP b2 0)) (AA O underlying83 O sizeOf75 O) O (Cy 0 (fxL b.x) D8 O (Cj (args:=[(aG (AO p.x)),(aG (fxL b.x))]) (v:=(Value.bool false)) call23 (λw hw=>(by have h9:=Jw p.x b.x (by assumption) Z w (Z4 (inS hw 2 O lb)) (hT.below hw.out);rw [decide_eq_false hx] at h9;exact h9)) O ?_)))))
  refine AM O (AE.skip (AJ O) O (AT O) (AE.skip (AJ O) O (AT O) (AE.skip (AJ O) O (AT O) (AE.skip (AJ O) O (AT O) (AE.skip (AJ O) O (AT O) ?_)))))
  exact AH (v:=(Value.bool false)) (AP O O) O (asg' O (AE.nil (AC.subF (sL [4] O) (AC.then_ (AF.ret (AI O (AY (v:=(Value.bool false)) O) (λw hw=>⟨by rw [UE];simp [hx],hw.out⟩)))))))
end
section
set_option maxRecDepth 100000
theorem Fj {r0:Rat} (x0:FX r0) {r1:Rat} (x1:FX r1):Instr.fill ([(0,3),(3,3)].toArray[·]?) ([(Value.bool false),(Value.slice none 0 0),(Value.slice none 0 0),(Value.bool false),(Value.slice none 0 0),(Value.slice none 0 0)]).toArray [(0,.agg (fxL x0).toArray),(1,.agg (fxL x1).toArray)]=some (fxL x0++fxL x1).toArray:=by kernel_rfl
theorem Ot {x y:Pt} (a:PX x) (b:PX y) (hs:B_ x+B_ y<=2097152) (w:World) {S:Nat->Prop} (ha:Ro S w a) (hb:Ro S w b)  :Calls prog 146 #[(aG (DE a)),(aG (DE b))] w (Aw (PX (x-y)) S w):=by
 have sxx:=Ez x
 have sxy:=E1 x
 have syx:=Ez y
 have syy:=E1 y
 have la:=Cl (W:=w) ha
 have lb:=Cl (W:=w) hb
 refine Ah (args:=[(aG (DE a)),(aG (DE b))]) (L:=[Be a.x.z.n,Be a.x.m,Be a.y.z.n,Be a.y.m,Be b.x.z.n,Be b.x.m,Be b.y.z.n,Be b.y.m]) func146 O O (AT O) (Yx ha (Yx hb Ax)) (AF.subF (sL [0,1] O) (q4 (BU (cs:=DE a) O λb1=>BU (cs:=DE b) O λb2=>al UC O λb3=>?_)))
 refine q6 (sL [2,3,4] O) (Cd [(0,true),(1,true),(2,true),(3,true),(5,true),(6,true),(7,true),(8,true),(4,false),(9,false),(10,true),(11,false)] (sl sr) (Aq (v:=(pP b1 0)) O (AA O underlying83 O sizeOf75 O) (Ff 1 (fxL a.x) D8 O (Aq (v:=(pP b2 0)) O (AA O underlying83 O sizeOf75 O) (Ff 0 (fxL b.x) D8 O ?_)))))
 refine Aq (v:=(pP b1 3)) O (AA O underlying83 O sizeOf75 O) (Ff 1 (fxL a.y) D8 O (Aq (v:=(pP b2 3)) O (AA O underlying83 O sizeOf75 O) (Ff 0 (fxL b.y) D8 O (OkE.imp O ?_))))
 have hz1:=GL x.x y.x
 refine cF (S:=S) (x:=(x.x-y.x)) (args:=[(aG (fxL a.x)),(aG (fxL b.x))]) call203 (λw hw=>M4 a.x b.x (by (try simp only [C5]);omega) w (Z4 (inS hw 3 O la)) (Z4 (inS hw 7 O lb))) O O O λg1 lg1=>OkE.back (sl (sl (sl sr))) (OkE.imp O ?_)
 have hz2:=GL x.y y.y
 refine cF (S:=S) (x:=(x.y-y.y)) (args:=[(aG (fxL a.y)),(aG (fxL b.y))]) call203 (λw hw=>M4 a.y b.y (by (try simp only [C5]);omega) w (aV (inS hw 5 O la)) (aV (inS hw 9 O lb))) O O O λg2 lg2=>OkE.back (sl (sl (sl (sl (sl sr))))) (Aq (v:=(aG (fxL g1++fxL g2))) O (AV (zs:=[(Value.bool false),(Value.slice none 0 0),(Value.slice none 0 0),(Value.bool false),(Value.slice none 0 0),(Value.slice none 0 0)]) (vs:=fxL g1++fxL g2) (pv:=[(0,(aG (fxL g1))),(1,(aG (fxL g2)))]) (places:=[(0,3),(3,3)]) zeroValue83 underlying83 (λw=>by simp [sizeOf75]) O (Fj g1 g2)) (OkE.imp O (Eg 4 (off:=0) (vs:=fxL g1++fxL g2) (cs':=fxL g1++fxL g2) (AS O) O sizeOf83 O (OkE.back (sl (sl (sl (sl (sl sr))))) ?_))))
 exact OkE.nil (AC.subF (sL [4] O) (AC.then_ (AF.ret (AI O (Ap (i:=4) (cs:=fxL g1++fxL g2) O O isAgg83 sizeOf83 O) (λw hw=>ED (a:=((PX.mk g1 g2:PX (⟨x.x-y.x,x.y-y.y⟩:Pt)):PX (x-y))) hw (cU (inS hw 2 O lg1) (inS hw 0 O lg2)) O)))))
theorem QG {x y:Pt} (a:PX x) (b:PX y) (hs:B_ x+B_ y<=2097152) (w:World) {S:Nat->Prop} (ha:Ro S w a) (hb:Ro S w b)  :Calls prog 145 #[(aG (DE a)),(aG (DE b))] w (Aw (FX (E_ x y)) S w):=by
 have sxx:=Ez x
 have sxy:=E1 x
 have syx:=Ez y
 have syy:=E1 y
 have la:=Cl (W:=w) ha
 have lb:=Cl (W:=w) hb
 refine Ah (args:=[(aG (DE a)),(aG (DE b))]) (L:=[Be a.x.z.n,Be a.x.m,Be a.y.z.n,Be a.y.m,Be b.x.z.n,Be b.x.m,Be b.y.z.n,Be b.y.m]) func145 O O (AT O) (Yx ha (Yx hb Ax)) (AF.subF (sL [0,1] O) (q4 (BU (cs:=DE a) O λb1=>BU (cs:=DE b) O λb2=>al Id O λb3=>?_)))
 refine q6 (sL [2,3,4] O) (Cd [(0,true),(1,true),(2,true),(3,true),(5,true),(6,true),(7,true),(8,true),(4,false),(9,false),(10,false),(11,false)] (sl sr) (Aq (v:=(pP b1 0)) O (AA O underlying83 O sizeOf75 O) (Ff 1 (fxL a.x) D8 O (Aq (v:=(pP b2 3)) O (AA O underlying83 O sizeOf75 O) (Ff 0 (fxL b.y) D8 O ?_)))))
 refine Aq (v:=(pP b1 3)) O (AA O underlying83 O sizeOf75 O) (Ff 1 (fxL a.y) D8 O (Aq (v:=(pP b2 0)) O (AA O underlying83 O sizeOf75 O) (Ff 0 (fxL b.x) D8 O (OkE.imp O ?_))))
 have hz1:=EK x.x y.y
 refine cF (S:=S) (x:=(x.x*y.y)) (args:=[(aG (fxL a.x)),(aG (fxL b.y))]) call202 (λw hw=>NQ a.x b.y (by (try simp only [C5]);omega) w (Z4 (inS hw 3 O la)) (aV (inS hw 7 O lb))) O O O λg1 lg1=>OkE.back (sl (sl (sl sr))) (OkE.imp O ?_)
 have hz2:=EK x.y y.x
 refine cF (S:=S) (x:=(x.y*y.x)) (args:=[(aG (fxL a.y)),(aG (fxL b.x))]) call202 (λw hw=>NQ a.y b.x (by (try simp only [C5]);omega) w (aV (inS hw 5 O la)) (Z4 (inS hw 9 O lb))) O O O λg2 lg2=>OkE.back (sl (sl (sl (sl (sl sr))))) (OkE.imp O ?_)
 have hz3:=GL (x.x*y.y) (x.y*y.x)
 refine cF (S:=S) (x:=((x.x*y.y)-(x.y*y.x))) (args:=[(aG (fxL g1)),(aG (fxL g2))]) call203 (λw hw=>M4 g1 g2 (by (try simp only [C5]);omega) w (inS hw 2 O lg1) (inS hw 0 O lg2)) O O O λg3 lg3=>OkE.back (sl (sl (sl (sl (sl (sl (sl sr))))))) (OkE.imp O (Eg 6 (off:=0) (vs:=fxL g3) (cs':=fxL g3) (AS O) O sizeOf75 O (OkE.back (sl (sl (sl (sl (sl (sl (sl sr))))))) (OkE.nil ?_))))
 exact AC.subF (sL [4] O) (AC.then_ (AF.ret (AI O (Ap (i:=6) (cs:=fxL g3) O O isAgg75 sizeOf75 O) (λw hw=>ED (a:=(g3:FX (E_ x y))) hw (inS hw 0 O lg3) O))))
end
section
structure S3 (u v q:Rat) where
  b:Nat
  f:FX u
  g:FX v
  h:FX q
@[reducible] def S3.p {u v q:Rat} (a:S3 u v q):Option Addr:=some ⟨a.b,0,none⟩
def d9 {u v q:Rat} (a:S3 u v q):List Value:=fxL a.f++fxL a.g++fxL a.h
def cK {u v q:Rat} (a:S3 u v q):List As:=[AQ a.p (d9 a),Be a.f.z.n,Be a.f.m,Be a.g.z.n,Be a.g.m,Be a.h.z.n,Be a.h.m]
theorem Vo {u v q:Rat} (a:S3 u v q):∀y∈cK a,y.ro=true:=λy hy=>by
  simp only [cK,List.mem_cons,List.not_mem_nil,or_false] at hy
  rcases hy with rfl|rfl|rfl|rfl|rfl|rfl|rfl<;>rfl
instance {u v q:Rat}:DN (S3 u v q):=⟨λa=>.slice a.p 3 3,cK,Vo⟩
structure d8 (u v q:Rat) where
  s:S3 u v q
instance {u v q:Rat}:DN (d8 u v q):=⟨λa=>.tuple #[.slice a.s.p 3 3,vI 0],λa=>cK a.s,λa=>Vo a.s⟩
section
variable {S:Nat->Prop} {w W:World} {w0:BJ} {L:List As} {u v q:Rat}
end
section
variable {P:Program} {ops:Array Oper} {rest:List Oper} {Q:Exit->Act->World->Prop} {n d:Nat} {F:List (Nat×Value)} {w0:BJ} {S:Nat->Prop} {L:List As} {t:TypeId} {p:String} {af:Array Edge} {y:Operand} {f:FuncId} {xs:List Operand} {args:List Value} {ts:Array TypeId}
end
end
section
set_option maxRecDepth 100000
def H2 (a b c:Pt):Rat:=AX a b c/((2:Int):Rat)
theorem V8:Sz ((2:Int):Rat)<=2:=Ht (by decide) (by decide)
theorem UF (a b c:Pt):Sz (H2 a b c)<=4*B_ a+2*B_ b+2*B_ c+7:=by
 have h1:=Dl a b c
 have h2:=M6 (AX a b c) ((2:Int):Rat)
 have h3:=V8
 exact Nat.le_trans h2 Z
theorem Sq {x y z:Pt} (a:PX x) (b:PX y) (d:PX z) (hs:B_ x+B_ y+B_ z<=65536) (w:World) {S:Nat->Prop} (ha:Ro S w a) (hb:Ro S w b) (hd:Ro S w d)  :Calls prog 81 #[(aG (DE a)),(aG (DE b)),(aG (DE d))] w (Aw (FX (H2 x y z)) S w):=by
 have s2:=V8
 have la:=Cl (W:=w) ha
 have lb:=Cl (W:=w) hb
 have ld:=Cl (W:=w) hd
 refine Ah (args:=[(aG (DE a)),(aG (DE b)),(aG (DE d))]) (L:=[Be a.x.z.n,Be a.x.m,Be a.y.z.n,Be a.y.m,Be b.x.z.n,Be b.x.m,Be b.y.z.n,Be b.y.m,Be d.x.z.n,Be d.x.m,Be d.y.z.n,Be d.y.m]) func81 O O (AT O) (Yx ha (Yx hb (Yx hd Ax))) (AF.subF (sL [0,1,2] O) (q4 (BU (cs:=DE a) O λb1=>BU (cs:=DE b) O λb2=>BU (cs:=DE d) O λb3=>?_)))
 refine al Id O λb4=>q6 (sL [3,4,5,6] O) (Cd [(0,true),(1,true),(3,true),(4,true),(2,false),(5,false),(6,false),(7,false),(8,false),(9,false)] (sl sr) (Da 1 Fa O (Da 2 Fa O (Da 0 Fa O ?_))))
 refine Da 2 Fa O (OkE.imp O ?_)
 have hz1:=FH y x
 refine cP (S:=S) (x:=(y-x)) (args:=[(aG (DE b)),(aG (DE a))]) call146 (λw hw=>Ot b a Z w (inS hw 8 O lb) (inS hw 4 O la)) O O O λg1 lg1=>OkE.back (sl (sl (sl (sl (sl sr))))) (OkE.imp O ?_)
 have hz2:=FH z x
 refine cP (S:=S) (x:=(z-x)) (args:=[(aG (DE d)),(aG (DE a))]) call146 (λw hw=>Ot d a Z w (inS hw 16 O ld) (inS hw 8 O la)) O O O λg2 lg2=>OkE.back (sl (sl (sl (sl (sl (sl (sl (sl (sl sr))))))))) (OkE.imp O ?_)
 have hz3:=IP (y-x) (z-x)
 refine cF (S:=S) (x:=(E_ (y-x) (z-x))) (args:=[(aG (DE g1)),(aG (DE g2))]) call145 (λw hw=>QG g1 g2 Z w (inS hw 4 O lg1) (inS hw 0 O lg2)) O O O λg3 lg3=>OkE.back (sl (sl (sl (sl (sl (sl (sl (sl (sl (sl (sl sr))))))))))) (OkE.imp O (cF (S:=S) (x:=(((2:Int):Int):Rat)) (args:=[(vI 2)]) call78 (λw hw=>J6 (2:Int) Z Z w) O O O λg4 lg4=>OkE.back (sl (sl (sl (sl (sl (sl (sl (sl (sl (sl (sl (sl (sl sr))))))))))))) (OkE.imp O ?_)))
 have hz4:=M6 (E_ (y-x) (z-x)) (((2:Int):Int):Rat)
 refine cF (S:=S) (x:=((E_ (y-x) (z-x))/(((2:Int):Int):Rat))) (args:=[(aG (fxL g3)),(aG (fxL g4))]) call144 (λw hw=>RD g3 g4 (by (try simp only [C5]);omega) w (inS hw 2 O lg3) (inS hw 0 O lg4)) O O O λg5 lg5=>OkE.back (sl (sl (sl (sl (sl (sl (sl (sl (sl (sl (sl (sl (sl (sl (sl sr))))))))))))))) (OkE.imp O (Eg 14 (off:=0) (vs:=fxL g5) (cs':=fxL g5) (AS O) O sizeOf75 O (OkE.back (sl (sl (sl (sl (sl (sl (sl (sl (sl (sl (sl (sl (sl (sl (sl sr))))))))))))))) (OkE.nil ?_))))
 exact AC.subF (sL [6] O) (AC.then_ (AF.ret (AI O (Ap (i:=14) (cs:=fxL g5) O O isAgg75 sizeOf75 O) (λw hw=>ED (a:=(g5:FX (H2 x y z))) hw (inS hw 0 O lg5) O))))
end
def ay (a b c:Int×Int):Int:=(b.1-a.1)*(c.2-a.2)-(b.2-a.2)*(c.1-a.1)
def Y9 (zs:List (Int×Int)) (ts:List T3):Nat->Int
  | 0=>0
  | i+1=>Y9 zs ts i+ay (zs.getD (ts.getD i (0,0,0)).1 (0,0)) (zs.getD (ts.getD i (0,0,0)).2.1 (0,0)) (zs.getD (ts.getD i (0,0,0)).2.2 (0,0))
def am (a:Int×Int):Prop:=(-1000<=a.1/\a.1<=1000) /\ -1000<=a.2/\a.2<=1000
theorem Kz {x y:Int} (hx:-2000<=x/\x<=2000) (hy:-2000<=y/\y<=2000):-4000000<=x*y/\x*y<=4000000:=by
  have h1:(x*y).natAbs<=2000*2000:=by
    rw [Int.natAbs_mul]
    exact Nat.mul_le_mul Z Z
  omega
theorem SE {a b c:Int×Int} (ha:am a) (hb:am b) (hc:am c):-8000000<=ay a b c/\ay a b c<=8000000:=by
  obtain ⟨⟨a1,a2⟩,a3,a4⟩:=ha
  obtain ⟨⟨b1,b2⟩,b3,b4⟩:=hb
  obtain ⟨⟨c1,c2⟩,c3,c4⟩:=hc
  have h1:=Kz (x:=b.1-a.1) (y:=c.2-a.2) Z Z
  have h2:=Kz (x:=b.2-a.2) (y:=c.1-a.1) Z Z
  unfold ay
  omega
theorem MD {zs:List (Int×Int)} {ts:List T3} (h:∀k,am (zs.getD k (0,0))):∀i:Nat,-(8000000*(i:Int))<=Y9 zs ts i/\Y9 zs ts i<=8000000*(i:Int)
  | 0=>by unfold Y9;omega
  | i+1=>by
    have h1:=MD (ts:=ts) h i
    have h2:=SE (h (ts.getD i (0,0,0)).1) (h (ts.getD i (0,0,0)).2.1) (h (ts.getD i (0,0,0)).2.2)
    unfold Y9
    omega
theorem Wc {ps:List Pt} {zs:List (Int×Int)} {ts:List T3} {k:Rat} (h:∀j,cor ps j=⟨((zs.getD j (0,0)).1:Rat)*k,((zs.getD j (0,0)).2:Rat)*k⟩):∀i,EC ps ts i=(Y9 zs ts i:Rat)*(k*k*(1/2))
  | 0=>by
    unfold EC Y9
    rw [show ((0:Int):Rat)=0 from rfl,Rat.zero_mul]
  | i+1=>by
    unfold EC Y9
    rw [Wc h i]
    unfold NE
    rw [h,h,h,Ca]
    generalize zs.getD (ts.getD i (0,0,0)).1 (0,0)=a
    generalize zs.getD (ts.getD i (0,0,0)).2.1 (0,0)=b
    generalize zs.getD (ts.getD i (0,0,0)).2.2 (0,0)=c
    unfold ay
    rw [Rat.intCast_add,Rat.intCast_sub,Rat.intCast_mul,Rat.intCast_mul,Rat.intCast_sub,Rat.intCast_sub,Rat.intCast_sub,Rat.intCast_sub]
    dsimp only
    grind
theorem Yk {z:Int} {d:Nat} (hd:d≠0) (hz:z.natAbs<18446744073709551616) (hd2:2*d*d<18446744073709551616):FW ((z:Rat)*(((d:Nat):Rat)⁻¹*((d:Nat):Rat)⁻¹*(1/2))):=by
  have hdq:((d:Nat):Rat)≠0:=λe=>hd (by exact_mod_cast e)
  have h1:((d:Nat):Rat)*((d:Nat):Rat)⁻¹=1:=Rat.mul_inv_cancel _ hdq
  have e2:(((2*d*d:Nat):Int):Rat)=2*((d:Nat):Rat)*((d:Nat):Rat):=by
    rw [show (((2*d*d:Nat):Int):Rat)=((2*d*d:Nat):Rat) from rfl,Rat.natCast_mul,Rat.natCast_mul];rfl
  have hD:(((2*d*d:Nat):Int):Rat)≠0:=λe=>by
    have h2:(2*d*d:Nat)=0:=by exact_mod_cast e
    have h3:0<2*d*d:=Nat.mul_pos Z Z
    omega
  have h3:=V4 (n:=z) (k:=2*d*d) (λe=>hD (by rw [e];rfl)) hz hd2
  have h4:(z:Rat)/(((2*d*d:Nat):Int):Rat)=(z:Rat)*(((d:Nat):Rat)⁻¹*((d:Nat):Rat)⁻¹*(1/2)):=by
    have h5:(((2*d*d:Nat):Int):Rat)⁻¹*(((2*d*d:Nat):Int):Rat)=1:=Rat.inv_mul_cancel _ hD
    rw [Rat.div_def]
    generalize (((2*d*d:Nat):Int):Rat)⁻¹=i at *
    rw [e2] at h5
    generalize ((d:Nat):Rat)⁻¹=k at *
    grind
  rwa [h4] at h3
theorem Sy {m:MQ} {pl:List P2} (hs:∀p∈pl,p.1<=6/\p.2<=6) (k:Nat):am ((Ch m pl).getD k (0,0)):=by
  rcases Nat.lt_or_ge k pl.length with h|h
  · rw [H9 h]
    have hp:=hs (pl.getD k (0,0)) (by rw [List.getD,List.getElem?_eq_getElem h];exact List.getElem_mem h)
    obtain ⟨⟨h1,h2⟩,h3,h4⟩:=PG (Em m.a m.b m.c m.d) hp
    have e:mapM m=F8 m.a m.b m.c m.d:=rfl
    rw [<-e] at h1 h2 h3 h4
    exact ⟨⟨Z,Z⟩,Z,Z⟩
  · rw [List.getD,List.getElem?_eq_none (by simp [Ch];exact h)]
    exact ⟨⟨by decide,by decide⟩,by decide,by decide⟩
theorem X8 {m:MQ} {pl:List P2} (j:Nat):cor (PU m (Ch m pl) pl.length) j=⟨(((Ch m pl).getD j (0,0)).1:Rat)*((BT m:Nat):Rat)⁻¹,(((Ch m pl).getD j (0,0)).2:Rat)*((BT m:Nat):Rat)⁻¹⟩:=by
  have hl:(Ch m pl).length=pl.length:=by simp [Ch]
  unfold cor
  rcases Nat.lt_or_ge j pl.length with h|h
  · have h1:=Jn (m:=m) (zs:=Ch m pl) (i:=j) (by rw [hl];exact h)
    rw [hl] at h1
    rw [h1]
    unfold QA CC Iy
    have hd:max (BT m) 1=BT m:=by unfold BT;omega
    simp only [hd,Rat.div_def]
    rfl
  · rw [List.getD,List.getElem?_eq_none (by rw [F_ (by rw [hl];exact Nat.le_refl _)];exact h),List.getD,List.getElem?_eq_none (by rw [hl];exact h)]
    show (⟨0,0⟩:Pt)=⟨((0:Int):Rat)*_,((0:Int):Rat)*_⟩
    rw [show ((0:Int):Rat)=0 from rfl,Rat.zero_mul]
theorem aR {m:MQ} {ps:List Pt} {ts:List T3} (h:VD m ps ts) (hl:ts.length<=36):FW (EC ps ts ts.length):=by
  obtain ⟨pl,hi,_,rfl⟩:=h
  rw [Wc (k:=((BT m:Nat):Rat)⁻¹) λj=>X8 j]
  have h1:=MD (ts:=ts) (Sy (m:=m) hi.small) ts.length
  have hd:BT m<=6/\0<BT m:=by unfold BT;omega
  exact Yk Z Z (Nat.lt_of_le_of_lt (Nat.mul_le_mul (Nat.mul_le_mul_left 2 hd.1) hd.1) (by decide))
theorem Pn {m:MQ} {ps:List Pt} {ts:List T3} (h:VD m ps ts) (j:Nat):PW (cor ps j):=by
  obtain ⟨pl,hi,_,rfl⟩:=h
  have hl:(Ch m pl).length=pl.length:=by simp [Ch]
  unfold cor
  rcases Nat.lt_or_ge j pl.length with h|h
  · have h1:=Jn (m:=m) (zs:=Ch m pl) (i:=j) (by rw [hl];exact h)
    rw [hl] at h1
    rw [h1]
    exact Xd (Rs hi.small h)
  · rw [List.getD,List.getElem?_eq_none (by rw [F_ (by rw [hl];exact Nat.le_refl _)];exact h)]
    exact ⟨by unfold FW;decide +kernel,by unfold FW;decide +kernel⟩
theorem Ui (t:T3) (p:Nat):Jj t (p:Int)=EQ t p:=by
  unfold Jj EQ
  simp only [Int.natCast_inj,Int.ofNat_inj,decide_eq_decide]
  exact (Bool.or_assoc _ _ _).symm
theorem YI (ts:List T3) (p n:Nat):PR ts p n=N4 ts (p:Int) n:=by
  unfold PR N4
  congr 1
  funext t
  exact (Ui _ _).symm
theorem Ud (ps:List Pt) (t:T3):H2 (cor ps t.1) (cor ps t.2.1) (cor ps t.2.2)=NE ps t:=by
  unfold H2 NE
  grind
theorem VO {N i:Nat} {ts:List T3} (hn:By N ts=true) (hN:N<=4611686018427387904) (hi:i<(Bi ts).length):((Bi ts).getD i (0,0,0)).2.2=0:=by
  rw [List.getD,List.getElem?_eq_getElem hi]
  exact ((Fx hn hN).1 (List.getElem_mem hi)).2
theorem AF.permR {P:Program} {c:Code} {Q:Exit->Act->World->Prop} {n:Nat} {F:List (Nat×Value)} {w0:BJ} {L L2:List As} (hp:L.Perm L2) (next:AF P c Q n F w0 L2):AF P c Q n F w0 L:=λa w ha hW=>next a w ha (hW.perm hp)
structure FS where
  q:Rat
  f:FX q
def cC:PX ⟨0,0⟩:=⟨FX.zero,FX.zero⟩
theorem P4 {S:Nat->Prop} {w:World}:Ro S w cC:=cU (aW (bu Pe) Pe) (aW (bu Pe) Pe)
end Go.Proofs.YtpgncndhhhllfaaGreatDoor
