import Derived.Lib.ItoaLen
import Derived.Laws.IdiomStrings
import Derived.Laws.Strings
import Derived.Test.YtpolhpjiahbidaaGreatDoorPart22
import Derived.Test.YtpolhpjiahbidaaGreatDoorPart23
namespace Go.Proofs.YtpolhpjiahbidaaGreatDoor
open Go Go.RowKit Go.Proofs.Tryz
open Go.Value renaming slice→qw,bool→qa
set_option linter.unusedVariables false
set_option linter.unusedSimpArgs false
section
def Zk (l:List UInt8):List Value:=l.map λx=>Value.int .u8 (x.toNat:Int)
theorem Lt (l:List UInt8):(Zk l).length=l.length:=by simp [Zk]
def Qp (w : World) : Prop := Lib.TabIs Tryz.prog w "internal/strconv.uint64pow10" .u64 Lib.pow10Tab
theorem S6 (zq:Nat) (hZ:zq=24) (b u:Nat) (T:TypeId) (w:World) (hb:w.heap[b]?=some (.cells (List.replicate zq (Value.int .u8 0)).toArray T (0,0))) (hu:u<18446744073709551616) :
    Calls prog 264 #[.slice (jk b) (Lib.nDigits u) 24,.int .u64 u] w λe w'=>e=.returned (.tuple #[])/\Mm w w' (some b)/\∃o,w'.heap[b]?=some o/\Gv 0 (Zk (Lib.decDigits u)) o:=by
  have hnd:=Lib.nDigits_le20 u hu
  have hH:Go.Sort.Holds (λ(b:UInt8)=>Value.int .u8 (b.toNat:Int)) w b 0 (Array.replicate (Lib.nDigits u) (0:UInt8)):=λj hj=>by
    have hj':j<Lib.nDigits u:=by simpa using hj
    refine ⟨?_,by simp [World.frozen?,hb]⟩
    rw [cell_of_row w b _ _ T (0,0) hb,getElem!_pos _ j hj]
    simp [show j<zq by omega]
  have h:=Tryz.internal_strconv_formatBase10 b 0 24 u (Array.replicate (Lib.nDigits u) 0) w hH (by rw [Array.size_replicate];exact Lib.lt_pow_nDigits u) hu (by rw [Array.size_replicate];omega)
  rw [Array.size_replicate] at h
  refine h.mono ?_
  rintro e w' ⟨rfl,n,v',dk,rfl,hF⟩
  refine ⟨rfl,⟨⟨rfl,rfl,rfl,by simp [Go.Sort.putRow,Go.Sort.mapBlock],λk hk hne=>?_⟩,(by show w.drawn<=w.drawn+n;omega)⟩,_,(by simp only [World.heap_drewN,Go.Sort.putRow,Go.Sort.mapBlock,Array.getElem?_modify,hb,if_true,Option.map_some,Go.Sort.onCells]:_=some (.cells (Go.Sort.putCells (λ(b:UInt8)=>Value.int .u8 (b.toNat:Int)) 0 dk (List.replicate zq (Value.int .u8 0)).toArray) T (0,0))),_,T,(0,0),rfl,?_⟩
  · have:b≠k:=λe=>hne (by rw [e])
    simp [Go.Sort.putRow,Go.Sort.mapBlock,Array.getElem?_modify,this]
  · have hsz:dk.size=Lib.nDigits u:=hF.size
    rw [Lt,Lib.decDigits_length]
    apply List.ext_getElem?
    intro j
    by_cases hj:j<Lib.nDigits u
    · have hjd:j<(Lib.decDigits u).length:=by rw [Lib.decDigits_length];exact hj
      rw [List.drop_zero,List.getElem?_take_of_lt hj,Array.getElem?_toList]
      have e1:=Lib.row_is_numeral hF j hjd
      simp only [Zk,List.getElem?_map,xN hjd,e1,Option.map_some]
      simp [Go.Sort.putCells,hj,hsz,show j<zq by omega]
    · rw [List.getElem?_take_eq_none Z,List.getElem?_eq_none (by rw [Lt,Lib.decDigits_length];omega)]
theorem U5 (b u:Nat) (T:TypeId) (w:World) (hb:w.heap[b]?=some (.cells (List.replicate 24 (Value.int .u8 0)).toArray T (0,0))) (hu:u<18446744073709551616) :
    Calls prog 264 #[.slice (jk b) (Lib.nDigits u) 24,.int .u64 u] w λe w'=>e=.returned (.tuple #[])/\Mm w w' (some b)/\∃o,w'.heap[b]?=some o/\Gv 0 (Zk (Lib.decDigits u)) o:=S6 24 rfl b u T w hb hu
theorem Qp.below {w w':World} (h:Qp w) (hb:Gx w.heap.size w w'):Qp w':=by
  unfold Qp Lib.TabIs World.var? at *
  cases hg : Tryz.prog.globalNamed "internal/strconv.uint64pow10" with
  | none=>simp [hg] at h
  | some g =>
    simp only [hg,Option.bind_some] at h ⊢
    have hlt:g<w.heap.size:=by
      rcases Nat.lt_or_ge g w.heap.size with h'|h'
      · exact h'
      · rw [Array.getElem?_eq_none h'] at h;simp at h
    rw [hb.block g hlt]
    exact h
theorem Xm (u:Nat) (h1:1<=u) (h2:u<18446744073709551616) (w:World) (hT:Qp w):Calls prog 263 #[vK .u64 u] w (Ak w (vN (Lib.nDigits u))) :=
  (Tryz.internal_strconv_numDigits u h1 h2 w hT).mono λe w' h=>⟨h.1,h.2▸Gx.refl _ _⟩
theorem TH (i:Nat) (h:i<100) (w:World):Calls prog 262 #[vN i] w (Ak w (.string (txB (Lib.decDigits i)))) :=
  (Tryz.internal_strconv_small i h w).mono λe w' h=>⟨h.1,h.2▸Gx.refl _ _⟩
section
variable {ops:Array Oper} {rest:List Oper} {Q:Exit->Act->World->Prop} {n:Nat} {F:List (Nat×Value)} {w0:BC} {L:List As} {t:TypeId} {p:String} {af:Array Edge} {d:Option Tmp} {g:Option (Nat×Bool)} {x:Operand}
theorem AL.callRow {P:Program} {o:Oper} {f:FuncId} {args:Array Value} {v:Value} (i:Nat) {b:Nat} {T:TypeId} {cs cs':List Value} (hw:Wt ops n F o)
    (he:∀a w,Frm n a F->Own w0 w L->(execOp a.eval o).run P w=.ok (.enter f args) w) (hi:L[i]?=some (AR b T cs))
    (hc:∀w,Own w0 w L->Calls P f args w λe w'=>e=.returned v/\Mm w w' (some b)/\∃o,w'.heap[b]?=some o/\Gv 0 cs' o)
    (hd:∀d,o.dst=some d->d<n) (next:AL P ops rest Q n (match o.dst with|some d=>(d,v)::F|none=>F) w0 (L.set i (AB (jk b) cs'))):AL P ops (o::rest) Q n F w0 L:=λa w ha hW=>by
  unfold wpList
  rw [if_pos (hw a ha)]
  left
  unfold Oper.wp
  rw [he a w ha hW,Oper.upon_enter]
  refine (hc w hW).mono ?_
  rintro e w' ⟨rfl,hg,o',hcell,hl⟩
  have hW':=hW.turn hi rfl rfl hg ⟨o',hcell,hl⟩ (y:=AB (jk b) cs')
  cases hdd:o.dst with
  | none=>rw [hdd] at next;exact next _ _ ha.put_none hW'
  | some d=>rw [hdd] at next;exact next _ _ (ha.put (hd d hdd)) hW'
theorem Fy {P:Program} {tx e:TypeId} {b len k m:Nat} {ki:IntKind} {hi:Operand} (hx:evF F x=some (.pointer (jk b))) (hh:evF F hi=some (.int ki (m:Nat))) (hu:P.underlying tx=some (.array len e)) (hs:∀w,(sizeOf e).run P w=.ok k w) (hm:m<=len) (h0:0<len) :
    Ex P n F w0 L ⟨d,.slice tx x none (some hi) none,t,p,af,g⟩ (.slice (jk b) m len):=λA w ha _=>by
  have e1:¬len=0:=by omega
  simp [execOp,ha.ev hx,ha.ev hh,Instr.sliceAt,run_underlying hu,Instr.sureAddr,Instr.sliceBounds,Instr.sliceBound,asIntOf,hs,e1,hm,Addr.add_lit]
theorem MV {P:Program} {src dst e:TypeId} {b k:Nat} {cap m:Nat} {l:List UInt8} (hx:evF F x=some (.slice (jk b) m cap)) (hm:m=l.length) (hi:L[k]?=some (AB (jk b) (Zk l))) (hs:P.underlying src=some (.slice e)) (he:P.underlying e=some (.int .u8)) (hd:P.underlying dst=some .string) :
    Ex P n F w0 L ⟨d,.convert src dst x,t,p,af,g⟩ (.string (txB l)):=λA w hf hW=>by
  subst hm
  have h:=run_convert_bytes_back (P:=P) w src dst e ⟨b,0,none⟩ cap l hs he hd (λj hj=>by
    obtain ⟨o,ho,hp⟩:=hW.holds hi b rfl
    rw [Addr.add_lit]
    exact Gv.cell hp ho (by simp [Zk,hj]))
  simp only [execOp,hf.ev hx,Sem.run_bind,h,Result.andThen_ok,Sem.run_pure]
  rfl
end
end
section
set_option maxRecDepth 100000
theorem QE (n:Nat) (hn:n<18446744073709551616) (w:World) (hT:Qp w):Calls prog 230 #[(vK .u64 n),(vI 10)] w (Ak w (Value.string (txB (Lib.decDigits n)))):=by
 have hnd:=Lib.nDigits_le20 n hn
 refine Ab (args:=[(vK .u64 n),(vI 10)]) func230 O O (Av O) (zN (sL [0,1] O) (q4 (asg' O (oNl' (q1 (q4 (AM O (AG (BO (c:=true) O O jY) O (oNl' (zB (sL [0,1,4,10] O) (zA ?_)))))))))))
 refine ze O (zV (q4 (AM O (AG (Ae (c:=(decide (n<100))) O O (CM (a:=n) (b:=100))) O (oNl' (zB (sL [0,1,4,12] O) (zA ?_)))))))
 refine zM O (λhc1=>?_) (λhc1=>?_)
 ·replace hc1:=xR hc1
  exact q4 (AM O (AG (A9 (c:=((n:Nat):Int)) O underlying69 underlying3 (FQ Z)) O (ck' call262 (TH n Z) O (asg' O (oNl' (zB (sL [0,1,4] O) (zA (zF (zO (zO (ret_one O (rd_tmp (v:=(Value.string (txB (Lib.decDigits n)))) O) (λw hw=>⟨rfl,hw.out⟩))))))))))))
 ·replace hc1:=xQ hc1
  refine zG (q2 (al cK O λb1=>oNl' (q2 (AM O (Ct call263 (λw hw=>Xm n Z Z w (hT.below hw.out)) O (asg' O (q3 (sL [0,1,4,5,6] O) (AM O (AG (v:=(qw (jk b1) (Lib.nDigits n) 24)) (Fy (len:=24) (m:=Lib.nDigits n) O O underlying331 sizeOf5 Z jY) O (AM O ?_))))))))))
  exact AL.callRow 0 (cs':=Zk (Lib.decDigits n)) (v:=(Value.tuple #[])) (AJ O) (Aw (args:=[(qw (jk b1) (Lib.nDigits n) 24),(vK .u64 n)]) O O call264) O (λw hw=>U5 _ _ 331 w (hw.get (i:=0) O) hn) (λd hd=>by cases hd<;>exact (Av O)) (q3 (sL [0,1,4,5,6] O) (AM O (AG (v:=(qw (jk b1) (Lib.nDigits n) 24)) (Fy (len:=24) (m:=Lib.nDigits n) O O underlying331 sizeOf5 Z jY) O (AG (v:=(Value.string (txB (Lib.decDigits n)))) (MV (k:=0) O (Lib.decDigits_length n).symm O underlying86 underlying5 underlying9) O (asg' O (oNl' (zB (sL [0,1,4,5,6] O) (zA (zF (zO (ret_one O (rd_tmp (v:=(Value.string (txB (Lib.decDigits n)))) O) (λw hw=>⟨rfl,hw.out⟩))))))))))))
theorem Rj (n:Nat) (hn:n<18446744073709551616) (w:World) (hT:Qp w):Calls prog 186 #[(vK .u64 n),(vI 10)] w (Ak w (Value.string (txB (Lib.decDigits n)))):=by
 refine Ab (args:=[(vK .u64 n),(vI 10)]) func186 O O (Av O) (zN (sL [0,1] O) (q4 (asg' O (oNl' (q2 (AM O (AM O (Ct call230 (λw hw=>QE n Z w (hT.below hw.out)) O (asg' O (oNl' (zB (sL [4] O) ?_)))))))))))
 exact zA (zF (ret_one O (rd_tmp (v:=(Value.string (txB (Lib.decDigits n)))) O) (λw hw=>⟨rfl,hw.out⟩)))
end
theorem Hv {k:Nat} (h:k<10):(UInt8.ofNat (48+k)).toNat=48+k:=by
  rw [UInt8.toNat_ofNat']
  exact Nat.mod_eq_of_lt Z
theorem Vf:∀(u:Nat) {c:UInt8},c∈Lib.decDigits u->48<=c.toNat/\c.toNat<=57:=λu=>by
  induction u using Nat.strongRecOn with
  | _ u ih =>
    intro c hc
    by_cases h:u<10
    · rw [Lib.decDigits,dif_pos h,xM] at hc
      subst hc
      rw [Hv h];omega
    · rw [Lib.decDigits,dif_neg h] at hc
      rcases List.mem_append.1 hc with hc|hc
      · exact ih _ Z hc
      · rcases xM.1 hc with rfl
        rw [Hv (Nat.mod_lt _ jY)];omega
def vD (l:List UInt8):Nat:=l.foldl (λa c=>a*10+(c.toNat-48)) 0
theorem Vd (u:Nat):vD (Lib.decDigits u)=u:=by
  induction u using Nat.strongRecOn with
  | _ u ih =>
    by_cases h:u<10
    · rw [Lib.decDigits,dif_pos h]
      show 0*10+((UInt8.ofNat (48+u)).toNat-48)=u
      rw [Hv h];omega
    · rw [Lib.decDigits,dif_neg h]
      have h1:=ih (u/10) Z
      unfold vD at h1 ⊢
      rw [List.foldl_append,h1]
      show u/10*10+((UInt8.ofNat (48+u%10)).toNat-48)=u
      rw [Hv (Nat.mod_lt _ jY)];omega
theorem OP {u v:Nat} (h:Lib.decDigits u=Lib.decDigits v):u=v:=by rw [<-Vd u,h,Vd]
theorem Pq (u:Nat) (l:List UInt8):Lib.decDigits u≠45::l:=λh=>by
  have:=(Vf u (c:=45) (by rw [h];exact List.mem_cons_self)).1
  exact absurd this jY
theorem YH {y z:Int} (h:txI y=txI z):y=z:=by
  unfold txI at h
  split at h<;>split at h
  · injection h with _ h
    have:=OP h;omega
  · exact absurd h.symm (Pq _ _)
  · exact absurd h (Pq _ _)
  · have:=OP h;omega
theorem OF (z:Int):∀c∈txI z,(c != 47)=true:=λc hc=>by
  have key:∀u,c∈Lib.decDigits u->(c != 47)=true:=λu hu=>by
    have h1:=(Vf u hu).1
    rw [bne_iff_ne]
    rintro rfl
    exact absurd h1 jY
  unfold txI at hc
  split at hc
  · rcases xL.1 hc with rfl|hc
    · decide
    · exact key _ hc
  · exact key _ hc
theorem QM (q:Rat):(Ot q).takeWhile (· != 47)=txI q.num:=by
  unfold Ot
  split
  · have h:=List.takeWhile_append_of_pos (l₂:=[]) (OF q.num)
    simpa using h
  · rw [List.takeWhile_append_of_pos (OF q.num)]
    simp
theorem Pu (q:Rat):(Ot q).dropWhile (· != 47)=if q.den-1=0 then [] else 47::Lib.decDigits q.den:=by
  unfold Ot
  split
  · have h:=List.dropWhile_append_of_pos (l₂:=[]) (OF q.num)
    simpa using h
  · rw [List.dropWhile_append_of_pos (OF q.num)]
    simp
theorem YG {q r:Rat} (h:Ot q=Ot r):q=r:=by
  have h1:txI q.num=txI r.num:=by rw [<-QM,h,QM]
  have h2:=Pu q
  rw [h,Pu] at h2
  have hq:=q.den_pos
  have hr:=r.den_pos
  refine Rat.ext (YH h1) ?_
  split at h2<;>split at h2
  · omega
  · cases h2
  · cases h2
  · injection h2 with _ h2
    exact (OP h2).symm
theorem Yy (a b:List UInt8):((txB a).toList == (txB b).toList)=(a == b):=by
  rw [ByteArray.toList_eq,ByteArray.toList_eq];rfl
theorem X4 (q r:Rat):((txB (Ot q)).toList == (txB (Ot r)).toList)=decide (q=r):=by
  rw [Yy]
  by_cases h:q=r
  · rw [h];simp
  · rw [xx h,beq_eq_false_iff_ne]
    exact λk=>h (YG k)
section
set_option maxRecDepth 100000
theorem Oa {n:Nat} (h:n<18446744073709551616):(Lib.decDigits n).length<=20:=by rw [Lib.decDigits_length];exact Lib.nDigits_le20 n h
theorem Ya {z:Int} (h:z.natAbs<18446744073709551616):(txI z).length<=21:=by
 have:=Oa h
 unfold txI;split<;>simp<;>omega
theorem Je (n:Nat) (hn:n<18446744073709551616) (w:World) (hT:Qp w):Calls prog 132 #[(aG (Aa n))] w (Ak w (Value.string (txB (Lib.decDigits n)))):=by
 refine Ab (args:=[(aG (Aa n))]) func132 O O (Av O) (zN (sL [0] O) (q4 (Bb (cs:=Aa n) O λb1=>asg' O (q6 (sL [1,2] O) (q4 (AG (v:=(pP b1 1)) (AA O underlying71 O sizeOf9 O) O (Az 0 (Value.string (Bo n)) UV O (AG (Bq (c:=(decide (n<18446744073709551616))) O O C1) O (oNl' (zB (sL [1,2,10] O) ?_))))))))))
 refine zA ?_
 refine zM O (λhc0=>?_) (λhc0=>?_)
 ·replace hc0:=xR hc0
  exact q4 (AG (v:=(pP b1 0)) (AA O underlying71 O sizeOf69 O) O (Az 0 (vK .u64 (CF n)) HH O (zC (k:=12) (u:=(vK .u64 n)) O (by rw [Bl Z]) (Ct call186 (λw hw=>Rj n Z w (hT.below hw.out)) O (asg' O (oNl' (zB (sL [1,2] O) (zA (zF (zO (ret_one O (rd_tmp (v:=(Value.string (txB (Lib.decDigits n)))) O) (λw hw=>⟨rfl,hw.out⟩))))))))))))
 ·replace hc0:=xQ hc0
  exfalso;omega
theorem NU (z:Int) (hz:z.natAbs<18446744073709551616) (w:World) (hT:Qp w):Calls prog 131 #[(aG (BA z))] w (Ak w (Value.string (txB (txI z)))):=by
 have hl:=Oa hz
 refine Ab (args:=[(aG (BA z))]) func131 O O (Av O) (zN (sL [0] O) (q4 (Bb (cs:=BA z) O λb1=>asg' O (q6 (sL [1,2] O) (q4 (AG (v:=(pP b1 2)) (AA O underlying75 O sizeOf4 O) O (Az 0 (qa (decide (z<0))) J2 O (oNl' (zB (sL [1,2,4] O) (zA ?_))))))))))
 refine zM O (λhc0=>?_) (λhc0=>?_)
 ·replace hc0:=xR hc0
  have he:txI z=45::Lib.decDigits z.natAbs:=by unfold txI;rw [if_pos hc0]
  exact q4 (AG (v:=(pP b1 0)) (AA O underlying75 O sizeOf73 O) O (AG (v:=(pP b1 0)) (AA O underlying73 O sizeOf71 O) O (Ei 0 (Aa z.natAbs) CD O (Ct call132 (λw hw=>Je z.natAbs Z w (hT.below hw.out)) O (AG (v:=(Value.string (txB (45::Lib.decDigits z.natAbs)))) (C0 (r:=(txB (45::Lib.decDigits z.natAbs))) O O (by rw [D6];show 1+_<=_;omega) (EG [45] _)) O (asg' O (oNl' (zB (sL [1,2] O) (zA (zF (zO (ret_one O (rd_tmp (v:=(Value.string (txB (45::Lib.decDigits z.natAbs)))) O) (λw hw=>⟨by rw [he],hw.out⟩)))))))))))))
 ·replace hc0:=xQ hc0
  have he:txI z=Lib.decDigits z.natAbs:=by unfold txI;rw [if_neg hc0]
  exact zG (q2 (AG (v:=(pP b1 0)) (AA O underlying75 O sizeOf73 O) O (AG (v:=(pP b1 0)) (AA O underlying73 O sizeOf71 O) O (Ei 0 (Aa z.natAbs) CD O (Ct call132 (λw hw=>Je z.natAbs Z w (hT.below hw.out)) O (asg' O (oNl' (zB (sL [1,2] O) (zA (zF (ret_one O (rd_tmp (v:=(Value.string (txB (Lib.decDigits z.natAbs)))) O) (λw hw=>⟨by rw [he],hw.out⟩))))))))))))
theorem UL (q:Rat) (hn:q.num.natAbs<18446744073709551616) (hd:q.den<18446744073709551616) (w:World) (hT:Qp w):Calls prog 77 #[(aG (AY q))] w (Ak w (Value.string (txB (Ot q)))):=by
 have hl1:=Ya hn
 have hl2:=Oa hd
 have hdn:nw q.den<=1099511627776:=xK (DB.2 (show q.den<4294967296^2 from hd)) jY
 refine Ab (args:=[(aG (AY q))]) func77 O O (Av O) (zN (sL [0] O) (q4 (Bb (cs:=AY q) O λb1=>asg' O (q6 (sL [1,2] O) (q4 (BD 0 Ce O (ck' call130 (HT q) O (oNl' (zB (sL [1,2,4] O) (zA ?_))))))))))
 refine zM O (λhc0=>?_) (λhc0=>?_)
 ·replace hc0:=xR hc0
  have he:Ot q=txI q.num:=by unfold Ot;rw [if_pos hc0]
  exact q4 (AG (v:=(pP b1 0)) (AA O underlying77 O sizeOf75 O) O (Ei 0 (BA q.num) Dd O (Ct call131 (λw hw=>NU q.num Z w (hT.below hw.out)) O (asg' O (oNl' (zB (sL [1,2] O) (zA (zF (zO (ret_one O (rd_tmp (v:=(Value.string (txB (txI q.num)))) O) (λw hw=>⟨by rw [he],hw.out⟩)))))))))))
 ·replace hc0:=xQ hc0
  have he:Ot q=txI q.num++[47]++Lib.decDigits q.den:=by unfold Ot;rw [if_neg hc0,xw];rfl
  refine zG (q1 (CQ [(0,true),(1,true),(4,true),(2,false),(3,true),(5,false),(6,false),(7,true),(8,true)] sr (Aj (v:=(pP b1 0)) O (AA O underlying77 O sizeOf75 O) (Eo 0 (BA q.num) Dd O (EC 0 Ce O (zK O (Ct call131 (λw hw=>NU q.num Z w (hT.below hw.out)) O (zD sr (Aj (v:=(Value.string (txB (txI q.num++[47])))) O (C0 (r:=(txB (txI q.num++[47]))) O O (by rw [D6];show _+1<=_;omega) (EG _ [47])) (zK O (ck' call133 (den_ok q Z) O ?_)))))))))))
  exact zD sr (zK O (Ct call132 (λw hw=>Je q.den Z w (hT.below hw.out)) O (zD sr (Aj (v:=(Value.string (txB (txI q.num++[47]++Lib.decDigits q.den)))) O (C0 (r:=(txB (txI q.num++[47]++Lib.decDigits q.den))) O O (by rw [D6,D6,xJ,List.length_singleton];omega) (EG _ _)) (pS' O (zT (zB (sL [1,2] O) (zA (zF (ret_one O (rd_tmp (v:=(Value.string (txB (txI q.num++[47]++Lib.decDigits q.den)))) O) (λw hw=>⟨by rw [he],hw.out⟩)))))))))))
def FW (q:Rat):Prop:=q.num.natAbs<18446744073709551616/\q.den<18446744073709551616
def PW (p:Pt):Prop:=FW p.x/\FW p.y
theorem V1 {n:Int} {k:Nat} (hk:k≠0) (hn:n.natAbs<18446744073709551616) (hk2:k<18446744073709551616):FW ((n:Rat)/((k:Int):Rat)):=by
 have e:(n:Rat)/((k:Int):Rat)=mkRat n k:=by
  rw [<-Rat.divInt_eq_div];rfl
 rw [e,Rat.mkRat_def,dif_neg hk]
 refine ⟨Nat.lt_of_le_of_lt ?_ hn,Nat.lt_of_le_of_lt ?_ hk2⟩
 ·rw [Rat.normalize_eq]
  show (n/((n.natAbs.gcd k:Nat):Int)).natAbs<=_
  rw [Int.natAbs_ediv_of_dvd (Int.ofNat_dvd_left.2 (Nat.gcd_dvd_left _ _))]
  exact Nat.div_le_self _ _
 ·rw [Rat.normalize_eq]
  exact Nat.div_le_self _ _
theorem W6 {q:QD} (h:q.ok):FW (Jp q):=by
 obtain ⟨h1,h2,h3⟩:=h
 exact V1 Z Z Z
theorem YN {p:PD} (h:p.ok):PW (G4 p):=⟨W6 h.1,W6 h.2⟩
theorem N6 (q:Rat) {r:Rat} (b:FX r) (hs:FW q) (hr:Sz r<=16777216) (w:World) {S:Nat->Prop} (hb:Ro S w b) (hT:Qp w):Calls prog 30 #[(aG (AY q)),(aG (fxL b))] w (Ak w (qa (decide (q=r)))):=by
 obtain ⟨hs1,hs2⟩:=hs
 have lb:=Bx (W:=w) hb
 refine AX (args:=[(aG (AY q)),(aG (fxL b))]) (L:=[Bj b.z.n,Bj b.m]) func30 O O (Av O) (N2 hb Ah) (zN (sL [0,1] O) (q4 (Bb (cs:=AY q) O λb1=>Bb (cs:=fxL b) O λb2=>asg' O (q6 (sL [2,3,4] O) (CQ [(0,true),(2,true),(1,false),(3,false),(4,true),(5,true)] sr (EC 1 Ce O (EC 0 Cw O (zK O (Ct call77 (λw hw=>UL q Z Z w (hT.below hw.out)) O ?_)))))))))
 exact zD sr (zK O (Ct call87 (λw hw=>W7 b Z w (inS hw 2 O lb)) O (zD sr (Aj O (Bq (c:=(decide (q=r))) O O (X4 _ _)) (pS' O (zT (zB (sL [4] O) (zA (zF (ret_one O (rd_tmp (v:=(qa (decide (q=r)))) O) (λw hw=>⟨rfl,hw.out⟩)))))))))))
theorem W2 (p q:Pt):decide (p=q)=(decide (p.x=q.x)&&decide (p.y=q.y)):=by
 rw [Bool.eq_iff_iff]
 simp only [xZ,xT]
 exact ⟨λh=>by rw [h];exact ⟨rfl,rfl⟩,λh=>Pt.ext h.1 h.2⟩
theorem bE (p:Pt) {q:Pt} (b:PX q) (hs:PW p) (hr:DU q<=16777216) (w:World) {S:Nat->Prop} (hb:Ro S w b) (hT:Qp w):Calls prog 49 #[(aG (BB p)),(aG (C2 b))] w (Ak w (qa (decide (p=q)))):=by
 obtain ⟨hs1,hs2⟩:=hs
 have gx:=Dw q
 have gy:=Dv q
 have lb:=Bx (W:=w) hb
 refine AX (args:=[(aG (BB p)),(aG (C2 b))]) (L:=[Bj b.x.z.n,Bj b.x.m,Bj b.y.z.n,Bj b.y.m]) func49 O O (Av O) (US hb Ah) (zN (sL [0,1] O) (q4 (Bb (cs:=BB p) O λb1=>Bb (cs:=C2 b) O λb2=>asg' O (q6 (sL [2,3,4] O) ?_))))
 by_cases hx:p.x=q.x
 ·refine zH (AG (v:=(pP b1 0)) (AA O underlying99 O sizeOf77 O) O (Ei 1 (AY p.x) Ce O (AG (v:=(pP b2 0)) (AA O underlying121 O sizeOf83 O) O (Ei 0 (fxL b.x) Cw O (Ct (args:=[(aG (AY p.x)),(aG (fxL b.x))]) (v:=(qa true)) call30 (λw hw=>(by have h9:=N6 p.x b.x (by assumption) Z w (XQ (inS hw 2 O lb)) (hT.below hw.out);rw [xy hx] at h9;exact h9)) O (AM O (Au (v:=(pP b1 5)) O (AA O underlying99 O sizeOf77 O) (Au (v:=(aG (AY p.y))) O (A_ (i:=1) (vs:=AY p.y) O O Ce.a Ce.s O O) (Au (v:=(pP b2 3)) O (AA O underlying121 O sizeOf83 O) (Au (v:=(aG (fxL b.y))) O (A_ (i:=0) (vs:=fxL b.y) O O Cw.a Cw.s O O) (zd (v:=(qa (decide (p.y=q.y)))) (AH O) (Aw (args:=[(aG (AY p.y)),(aG (fxL b.y))]) O O call30) (λw hw=>N6 p.y b.y (by assumption) Z w (ZG (inS hw 2 O lb)) (hT.below hw.out)) O (Av O) ?_)))))))))))
  exact AG (v:=(qa (decide (p.y=q.y)))) (AN O O) O (asg' O (oNl' (zB (sL [4] O) (zA (zF (ret_one O (rd_tmp (v:=(qa (decide (p.y=q.y)))) O) (λw hw=>⟨by rw [W2];simp [hx],hw.out⟩)))))))
 ·refine zH (AG (v:=(pP b1 0)) (AA O underlying99 O sizeOf77 O) O (Ei 1 (AY p.x) Ce O (AG (v:=(pP b2 0)) (AA O underlying121 O sizeOf83 O) O (Ei 0 (fxL b.x) Cw O (Ct (args:=[(aG (AY p.x)),(aG (fxL b.x))]) (v:=(qa false)) call30 (λw hw=>(by have h9:=N6 p.x b.x (by assumption) Z w (XQ (inS hw 2 O lb)) (hT.below hw.out);rw [xx hx] at h9;exact h9)) O (AM O (Ar O (Ar O (Ar O (Ar O (Ar O ?_)))))))))))
  exact AG (v:=(qa false)) (AI O O) O (asg' O (oNl' (zB (sL [4] O) (zA (zF (ret_one O (rd_tmp (v:=(qa false)) O) (λw hw=>⟨by rw [W2];simp [hx],hw.out⟩)))))))
end
section
set_option maxRecDepth 100000
theorem X2:ElemT prog 36 121 6 112:=⟨underlying36,D9 jV⟩
def DW (q:QD):Bool:=decide (-1000000<=q.n)&&(decide (q.n<=1000000)&&decide (q.d<=1000000))
def GF (r:RW):Bool:=decide (24<r.ds.length)||(decide (24<r.ts.length)||(decide (60<r.ss.length)||r.ds.any λd=>!(DW d.x&&DW d.y)))
theorem XO {r:RW} (h:GF r=false):r.ds.length<=24/\r.ts.length<=24/\r.ss.length<=60:=by
 unfold GF at h
 simp only [xW,xS] at h
 omega
theorem O0 {r:RW} {i:Nat} (hi:i<r.ds.length) (h:(!DW (r.ds.getD i E2).x||!DW (r.ds.getD i E2).y)=true):GF r=true:=by
 unfold GF
 have:(r.ds.any λd=>!(DW d.x&&DW d.y))=true:=List.any_eq_true.2 ⟨_,List.getElem_mem hi,by
  rw [List.getD,xN hi] at h
  simpa using h⟩
 rw [this];simp
theorem Ty {r:RW} (h:24<r.ds.length\/24<r.ts.length\/60<r.ss.length):GF r=true:=by
 unfold GF
 rcases h with h|h|h<;>simp [h]
theorem T0 {r:RW} (h:¬(24<r.ds.length\/24<r.ts.length\/60<r.ss.length)) (hs:∀i,i<r.ds.length->(DW (r.ds.getD i E2).x&&DW (r.ds.getD i E2).y)=true):GF r=false:=by
 unfold GF
 have:(r.ds.any λd=>!(DW d.x&&DW d.y))=false:=by
  rw [List.any_eq_false]
  intro d hd
  obtain ⟨i,hi,rfl⟩:=List.getElem_of_mem hd
  have:=hs i hi
  rw [List.getD,xN hi] at this
  simpa using this
 rw [this]
 simp only [xW,xS]
 exact ⟨Z,Z,Z,trivial⟩
theorem RW.pw (r:RW) (i:Nat) (h:i<r.ps.length):PW (r.ps.getD i ⟨0,0⟩):=by
 rw [r.pl] at h
 rw [Pp r h]
 exact YN (r.ok h)
theorem Mx (q:QD) (w:World)  :Calls prog 41 #[(aG (JB q))] w (Ak w (qa (DW q))):=by
 refine Ab (args:=[(aG (JB q))]) func41 O O (Av O) (zN (sL [0] O) (q4 (Bb (cs:=JB q) O λb1=>asg' O (q3 (sL [1,2] O) (AG (v:=(pP b1 0)) (AA O underlying94 O sizeOf2 O) O (Az 0 (vI q.n) dV O (AG (Bp (c:=(decide ((-1000000:Int)<=q.n))) O O O) O (AM O ?_))))))))
 refine zX (FM:=[(1,(pP b1 0)),(2,(qa false)),(3,(pP b1 0)),(4,(vI q.n)),(5,(qa (decide ((-1000000:Int)<=q.n)))),(6,(qa (decide ((-1000000:Int)<=q.n)))),(10,(qa ((decide ((-1000000:Int)<=q.n))&&(decide (q.n<=(1000000:Int))))))]) (LM:=[AR b1 94 (JB q)]) 4 ?_ ?_
 ·rcases xO (decide ((-1000000:Int)<=q.n)) with hg1|hg1
  ·refine zC (k:=6) (u:=qa true) O (by rw [hg1]) ?_
   have hg1':=xR hg1
   exact Au (v:=(pP b1 0)) O (AA O underlying94 O sizeOf2 O) (Au (v:=(vI q.n)) O (AE (i:=0) (v:=(vI q.n)) O O dV.a O) (Au (v:=(qa (decide (q.n<=(1000000:Int))))) O (Gi (c:=(decide (q.n<=(1000000:Int)))) O O O) (AG (v:=(qa (decide (q.n<=(1000000:Int))))) (AN O O) O (oNl' (zR Bg (xP _))))))
  ·refine zC (k:=6) (u:=qa false) O (by rw [hg1]) ?_
   have hg1':=xQ hg1
   exact Ar O (Ar O (Ar O (AG (v:=(qa false)) (AI O O) O (oNl' (zR Bg (xP _))))))
 refine AM O ?_
 refine zX (FM:=[(1,(pP b1 0)),(2,(qa false)),(3,(pP b1 0)),(4,(vI q.n)),(5,(qa (decide ((-1000000:Int)<=q.n)))),(6,(qa (decide ((-1000000:Int)<=q.n)))),(10,(qa ((decide ((-1000000:Int)<=q.n))&&(decide (q.n<=(1000000:Int)))))),(11,(qa ((decide ((-1000000:Int)<=q.n))&&(decide (q.n<=(1000000:Int)))))),(15,(qa (((decide ((-1000000:Int)<=q.n))&&(decide (q.n<=(1000000:Int))))&&(decide (q.d<=1000000)))))]) (LM:=[AR b1 94 (JB q)]) 4 ?_ ?_
 ·rcases xO ((decide ((-1000000:Int)<=q.n))&&(decide (q.n<=(1000000:Int)))) with hg2|hg2
  ·refine zC (k:=11) (u:=qa true) O (by rw [hg2]) ?_
   have hg2':=hg2
   simp only [jK] at hg2'
   exact Au (v:=(pP b1 1)) O (AA O underlying94 O sizeOf92 O) (Au (v:=(vK .u32 q.d)) O (AE (i:=0) (v:=(vK .u32 q.d)) O O aI.a O) (Au (v:=(qa (decide (q.d<=1000000)))) O (Gi (c:=(decide (q.d<=1000000))) O O (UT (a:=q.d) (b:=1000000))) (AG (v:=(qa (decide (q.d<=1000000)))) (AN O O) O (oNl' (zR EQ (xP _))))))
  ·refine zC (k:=11) (u:=qa false) O (by rw [hg2]) ?_
   have hg2':=hg2
   simp only [jK] at hg2'
   exact Ar O (Ar O (Ar O (AG (v:=(qa false)) (AI O O) O (oNl' (zR EQ (xP _))))))
 exact asg' O (oNl' (zB (sL [2] O) (zA (zF (ret_one O (rd_tmp (v:=(qa (((decide ((-1000000:Int)<=q.n))&&(decide (q.n<=(1000000:Int))))&&(decide (q.d<=1000000))))) O) (λw hw=>⟨by unfold DW;simp [Bool.and_assoc],hw.out⟩))))))
theorem WO (r:RW) (w:World) {S:Nat->Prop} (hr:Ro S w r):Calls prog 8 #[(aG (Ed r))] w (Ak w (qa (GF r))):=by
 have lr:=Bx (W:=w) hr
 refine AX (args:=[(aG (Ed r))]) (L:=[AB r.a.p (rowsL En r.ds),AB r.b.p (rowsL AS r.ts),AB r.c.p (rowsL AS r.ss)]) func8 O O (Av O) (DF hr Ah) (zN (sL [0] O) (q4 (Bb (cs:=Ed r) O λb1=>asg' O (q6 (sL [1,2] O) (q4 (AG (v:=(pP b1 0)) (AA O underlying26 O sizeOf22 O) O (Az 0 (qw r.a.p r.ds.length r.a.c) O_ O (AG (v:=(vN r.ds.length)) (AC O underlying22) O (AG (Bv (c:=(decide (24<r.ds.length))) O O (CM (a:=24) (b:=r.ds.length))) O (AM O ?_))))))))))
 refine zX (FM:=[(1,(pP b1 0)),(2,(qa false)),(4,(pP b1 0)),(5,(qw r.a.p r.ds.length r.a.c)),(6,(vN r.ds.length)),(7,(qa (decide (24<r.ds.length)))),(8,(qa (decide (24<r.ds.length)))),(13,(qa ((decide (24<r.ds.length))||(decide (24<r.ts.length)))))]) (LM:=[AR b1 26 (Ed r),AB r.a.p (rowsL En r.ds),AB r.b.p (rowsL AS r.ts),AB r.c.p (rowsL AS r.ss)]) 5 ?_ ?_
 ·rcases xO (decide (24<r.ds.length)) with hg1|hg1
  ·refine zC (k:=8) (u:=qa true) O (by rw [hg1]) ?_
   have hg1':=xR hg1
   exact Ar O (Ar O (Ar O (Ar O (AG (v:=(qa true)) (AN O O) O (oNl' (zR Bg (xP _)))))))
  ·refine zC (k:=8) (u:=qa false) O (by rw [hg1]) ?_
   have hg1':=xQ hg1
   exact Au (v:=(pP b1 1)) O (AA O underlying26 O sizeOf23 O) (Au (v:=(qw r.b.p r.ts.length r.b.c)) O (AE (i:=0) (v:=(qw r.b.p r.ts.length r.b.c)) O O B1.a O) (Au (v:=(vN r.ts.length)) O (AC O underlying23) (Au (v:=(qa (decide (24<r.ts.length)))) O (Bv (c:=(decide (24<r.ts.length))) O O (CM (a:=24) (b:=r.ts.length))) (AG (v:=(qa (decide (24<r.ts.length)))) (AI O O) O (oNl' (zR Bg (xP _)))))))
 refine AM O ?_
 refine zX (FM:=[(1,(pP b1 0)),(2,(qa false)),(4,(pP b1 0)),(5,(qw r.a.p r.ds.length r.a.c)),(6,(vN r.ds.length)),(7,(qa (decide (24<r.ds.length)))),(8,(qa (decide (24<r.ds.length)))),(13,(qa ((decide (24<r.ds.length))||(decide (24<r.ts.length))))),(14,(qa ((decide (24<r.ds.length))||(decide (24<r.ts.length))))),(19,(qa (((decide (24<r.ds.length))||(decide (24<r.ts.length)))||(decide (60<r.ss.length)))))]) (LM:=[AR b1 26 (Ed r),AB r.a.p (rowsL En r.ds),AB r.b.p (rowsL AS r.ts),AB r.c.p (rowsL AS r.ss)]) 5 ?_ ?_
 ·rcases xO ((decide (24<r.ds.length))||(decide (24<r.ts.length))) with hg2|hg2
  ·refine zC (k:=14) (u:=qa true) O (by rw [hg2]) ?_
   have hg2':=hg2
   simp only [jK] at hg2'
   exact Ar O (Ar O (Ar O (Ar O (AG (v:=(qa true)) (AN O O) O (oNl' (zR EQ (xP _)))))))
  ·refine zC (k:=14) (u:=qa false) O (by rw [hg2]) ?_
   have hg2':=hg2
   simp only [jK] at hg2'
   exact Au (v:=(pP b1 2)) O (AA O underlying26 O sizeOf24 O) (Au (v:=(qw r.c.p r.ss.length r.c.c)) O (AE (i:=0) (v:=(qw r.c.p r.ss.length r.c.c)) O O Gh.a O) (Au (v:=(vN r.ss.length)) O (AC O underlying24) (Au (v:=(qa (decide (60<r.ss.length)))) O (Bv (c:=(decide (60<r.ss.length))) O O (CM (a:=60) (b:=r.ss.length))) (AG (v:=(qa (decide (60<r.ss.length)))) (AI O O) O (oNl' (zR EQ (xP _)))))))
 refine oNl' (zB (sL [1,2,19] O) (zA ?_))
 refine zM O (λhc0=>?_) (λhc0=>?_)
 ·simp only [jK] at hc0
  have hgr:GF r=true:=Ty (by grind)
  exact q4 (asg' O (oNl' (zA (zF (zO (ret_one O (rd_tmp (v:=(qa true)) O) (λw hw=>⟨by rw [hgr],hw.out⟩)))))))
 ·simp only [jK] at hc0
  have hgl:¬(24<r.ds.length\/24<r.ts.length\/60<r.ss.length):=by grind
  refine zG (q1 (q4 (asg' O (oNl' (zA (zI ?_))))))
  refine zo (tg λ(i:Nat)=>i<=r.ds.length/\∀j,j<i->(DW (r.ds.getD j E2).x&&DW (r.ds.getD j E2).y)=true) (tg λ(i:Nat)=>[(1,(pP b1 0)),(3,(vN i))]) (tg λ(i:Nat)=>[AR b1 26 (Ed r),AB r.a.p (rowsL En r.ds),AB r.b.p (rowsL AS r.ts),AB r.c.p (rowsL AS r.ss)]) (tg λ(i:Nat)=>r.ds.length-i) 0 (⟨xH _,λj h=>absurd h (Nat.not_lt_zero _)⟩) (sF O) sr (λi hJ=>?_)
  obtain ⟨hi,hs⟩:=hJ
  refine zV (q4 (AM O (AG (v:=(pP b1 0)) (AA O underlying26 O sizeOf22 O) O (Az 0 (qw r.a.p r.ds.length r.a.c) O_ O (AG (v:=(vN r.ds.length)) (AC O underlying22) O (AG (Ae (c:=(decide (i<r.ds.length))) O O (CM (a:=i) (b:=r.ds.length))) O (oNl' (zB (sL [1,3,24] O) (zA ?_)))))))))
  refine zM O (λhc1=>?_) (λhc1=>?_)
  ·replace hc1:=xR hc1
   refine zG (q1 (zI (q4 (AG (v:=(pP b1 0)) (AA O underlying26 O sizeOf22 O) O (Az 0 (qw r.a.p r.ds.length r.a.c) O_ O (AM O (AG (v:=(pP (pB r.a.p) (pO r.a.p+i*4))) (AF (j:=i) O O r.a.ok underlying22 sizeOf96 O Z) O (AG (v:=(pP (pB r.a.p) (pO r.a.p+(i*4+0)))) (AA O underlying96 O sizeOf94 (Nat.add_assoc _ _ _)) O (AG (v:=(aG (JB ((r.ds.getD i E2).x)))) (AQ (vs:=JB ((r.ds.getD i E2).x)) (i:=1) O O (An.ne r.a.ok Z) UB (K9 Gk E2 _ _ 0 2 Z jY O) O) O (ck' call41 (Mx ((r.ds.getD i E2).x)) O (AG (BQ (c:=(!(DW ((r.ds.getD i E2).x)))) O O) O ?_)))))))))))
   refine AM O ?_
   refine zX (FM:=[(1,(pP b1 0)),(3,(vN i)),(27,(pP b1 0)),(28,(qw r.a.p r.ds.length r.a.c)),(29,(vN i)),(30,(pP (pB r.a.p) (pO r.a.p+i*4))),(31,(pP (pB r.a.p) (pO r.a.p+(i*4+0)))),(32,(aG (JB ((r.ds.getD i E2).x)))),(33,(qa (DW ((r.ds.getD i E2).x)))),(34,(qa (!(DW ((r.ds.getD i E2).x))))),(35,(qa (!(DW ((r.ds.getD i E2).x))))),(44,(qa ((!(DW ((r.ds.getD i E2).x)))||(!(DW ((r.ds.getD i E2).y))))))]) (LM:=[AR b1 26 (Ed r),AB r.a.p (rowsL En r.ds),AB r.b.p (rowsL AS r.ts),AB r.c.p (rowsL AS r.ss)]) 9 ?_ ?_
   ·rcases xO (!(DW ((r.ds.getD i E2).x))) with hg3|hg3
    ·refine zC (k:=35) (u:=qa true) O (by rw [hg3]) ?_
     have hg3':=hg3
     simp only [jK] at hg3'
     exact Ar O (Ar O (Ar O (Ar O (Ar O (Ar O (Ar O (Ar O (AG (v:=(qa true)) (AN O O) O (oNl' (zR Hz (xP _)))))))))))
    ·refine zC (k:=35) (u:=qa false) O (by rw [hg3]) ?_
     have hg3':=hg3
     simp only [jK] at hg3'
     exact Au (v:=(pP b1 0)) O (AA O underlying26 O sizeOf22 O) (Au (v:=(qw r.a.p r.ds.length r.a.c)) O (AE (i:=0) (v:=(qw r.a.p r.ds.length r.a.c)) O O O_.a O) (Ds O (Au (v:=(pP (pB r.a.p) (pO r.a.p+i*4))) O (AF (j:=i) O O r.a.ok underlying22 sizeOf96 O Z) (Au (v:=(pP (pB r.a.p) (pO r.a.p+(i*4+2)))) O (AA O underlying96 O sizeOf94 (Nat.add_assoc _ _ _)) (Au (v:=(aG (JB ((r.ds.getD i E2).y)))) O (AQ (vs:=JB ((r.ds.getD i E2).y)) (i:=1) O O (An.ne r.a.ok Z) UB (K9 Gk E2 _ _ 2 2 Z jY O) O) (zd (v:=(qa (DW ((r.ds.getD i E2).y)))) (AH O) (Aw (args:=[(aG (JB ((r.ds.getD i E2).y)))]) O O call41) (λw hw=>Mx ((r.ds.getD i E2).y) w) O (Av O) (Au (v:=(qa (!(DW ((r.ds.getD i E2).y))))) O (BQ (c:=(!(DW ((r.ds.getD i E2).y)))) O O) (AG (v:=(qa (!(DW ((r.ds.getD i E2).y))))) (AI O O) O (oNl' (zR Hz (xP _)))))))))))
   refine oNl' (zB (sL [1,3,44] O) (zA ?_))
   refine zM O (λhc2=>?_) (λhc2=>?_)
   ·simp only [jK] at hc2
    have hgr:GF r=true:=O0 Z (by grind)
    exact q4 (asg' O (oNl' (zA (zF (zY (zO (zk (zY (zO (ret_one O (rd_tmp (v:=(qa true)) O) (λw hw=>⟨by rw [hgr],hw.out⟩)))))))))))
   ·simp only [jK] at hc2
    have hsj:(DW (r.ds.getD i E2).x&&DW (r.ds.getD i E2).y)=true:=by grind
    exact zG (zJ (zA (zH (AM O (AG (AW (c:=((i+1:Nat):Int)) O O (AU (a:=i) (b:=1) Z)) O (asg' O (oNl' (zB (sL [1,3] O) (zc (i+1) (⟨Z,λj hj=>by rcases Nat.lt_or_ge j i with k|k;exact hs j k;rw [show j=i by omega];exact hsj⟩) Z (sF O) sr)))))))))
  ·replace hc1:=xQ hc1
   have hgr:GF r=false:=T0 hgl λj hj=>hs j Z
   exact zU (zP (za (zS (q2 (asg' O (oNl' (zA (zF (ret_one O (rd_tmp (v:=(qa false)) O) (λw hw=>⟨by rw [hgr],hw.out⟩))))))))))
theorem LZ (x0:Pt):Instr.fill (λi=>some (i*10,10)) ((Array.range (1*10)).map ((Value.agg (BB (⟨0,0⟩:Pt)).toArray).cells[·%(Value.agg (BB (⟨0,0⟩:Pt)).toArray).cells.size]!)) [(0,.agg (BB x0).toArray)]=some (BB x0).toArray:=by kernel_rfl
set_option maxHeartbeats 1000000 in
theorem W0 (r:RW) (hl1:r.ds.length<=24) (hl2:r.ts.length<=24) (hl3:r.ss.length<=60) (w:World) {S:Nat->Prop} (hr:Ro S w r):Calls prog 10 #[(aG (Ed r))] w (Ad (MZ r.ps r.ts r.ss) S w):=by
 have lr:=Bx (W:=w) hr
 refine AX (args:=[(aG (Ed r))]) (L:=[AB r.a.p (rowsL En r.ds),AB r.b.p (rowsL AS r.ts),AB r.c.p (rowsL AS r.ss)]) func10 O O (Av O) (DF hr Ah) (zN (sL [0] O) (q4 (Bb (cs:=Ed r) O λb1=>al IM O λb2=>q6 (sL [1,2] O) (rN [(0,true),(1,true),(3,true),(4,true),(2,false),(5,false),(6,true)] [⟨7,3,30,[jj,jj,jj]⟩] [(8,false)] sr jV (λ_ _ d _ _ h=>by cases d<;>exact h) (PC O O IM O (Qy)) O (H9 (v:=(pP b1 1)) O (AA O underlying26 O sizeOf23 O) O (Iw 1 (qw r.b.p r.ts.length r.b.c) B1 O (H9 (v:=(pP b1 2)) O (AA O underlying26 O sizeOf24 O) O (Iw 1 (qw r.c.p r.ss.length r.c.c) Gh O (yI O λEF EL=>?_)))))))))
 refine zf 105 3 (zy I3 O OwnOk.none O (JV (k:=4) O r.b.ok) (AV A7 _) (Cu Fm _) (FD Z) Z O λptb ctb otb=>xC (sl sr) O (yI O λEF EL=>zf 110 3 (zy ap O OwnOk.none O (JV (k:=6) O r.c.ok) (AV A7 _) (Cu Fm _) (FD Z) Z O λpsb csb osb=>xC (sl (sl sr)) O (H9 (v:=(aG ([jj,(qw ptb r.ts.length ctb),(qw psb r.ss.length csb)]))) O (AT (zs:=[jj,jj,jj]) (vs:=[jj,(qw ptb r.ts.length ctb),(qw psb r.ss.length csb)]) (pv:=[(1,(qw ptb r.ts.length ctb)),(2,(qw psb r.ss.length csb))]) (places:=[(0,1),(1,1),(2,1)]) zeroValue30 underlying30 (λw=>by simp [sizeOf23,sizeOf24,sizeOf28]) O O) O (yX λb3=>zK O (Ax O sizeOf30 O (zf 99 10 ?_)))))))
 refine zD (sl (sl (sl (sl sr)))) (zT (zB (sL [1,2,3] O) (q1 (q4 (asg' O (oNl' (zA (zI ?_))))))))
 refine yO (tg λ(i:Nat) (p1:Option Addr) (c1:Nat) (ps:List Pt)=>i<=r.ds.length/\OwnOk p1 ps.length c1/\ps=r.ps.take i) (tg λ(i:Nat) (p1:Option Addr) (c1:Nat) (ps:List Pt)=>[(1,(pP b1 0)),(2,(pP b2 0)),(3,(pP b3 0)),(4,(vN i))]) (tg λ(i:Nat) (p1:Option Addr) (c1:Nat) (ps:List Pt)=>[rowW p1 99 10 ps.length c1 (rowsL BB ps),AR b3 30 ([(qw p1 ps.length c1),(qw ptb r.ts.length ctb),(qw psb r.ss.length csb)]),rowW psb 110 3 r.ss.length csb (rowsL AS r.ss),rowW ptb 105 3 r.ts.length ctb (rowsL AS r.ts),AR b2 30 ([jj,jj,jj]),AR b1 26 (Ed r),AB r.a.p (rowsL En r.ds),AB r.b.p (rowsL AS r.ts),AB r.c.p (rowsL AS r.ss)]) (tg λ(i:Nat) (p1:Option Addr) (c1:Nat) (ps:List Pt)=>r.ds.length-i) 0 none 0 ([]:List Pt) (⟨xH _,OwnOk.none,rfl⟩) (sF O) sr (λi p1 c1 ps hJ=>?_)
 obtain ⟨hi,h1,hps⟩:=hJ
 have hpl:ps.length<=24:=by rw [hps,List.length_take];omega
 refine zV (q4 (AM O (AG (v:=(pP b1 0)) (AA O underlying26 O sizeOf22 O) O (Az 5 (qw r.a.p r.ds.length r.a.c) O_ O (AG (v:=(vN r.ds.length)) (AC O underlying22) O (AG (Ae (c:=(decide (i<r.ds.length))) O O (CM (a:=i) (b:=r.ds.length))) O (oNl' (zB (sL [1,2,3,4,16] O) (zA ?_)))))))))
 refine zM O (λhc0=>?_) (λhc0=>?_)
 ·replace hc0:=xR hc0
  refine zG (q1 (zI (rC [(0,true),(1,true),(2,true),(3,true),(4,true),(5,true),(6,true),(7,false),(8,false),(9,false),(10,true)] 11 [] (sl sr) (sl sr) jV (λ_ _ d _ _ h=>by cases d<;>exact h) (vE (v:=(pP b3 0)) O (AA O underlying30 O sizeOf28 O) O (vE O (AE (i:=0) (v:=(qw p1 ps.length c1)) O O GG.a O) O (vE (v:=(pP b1 0)) O (AA O underlying26 O sizeOf22 O) O (vE O (AE (i:=4) (v:=(qw r.a.p r.ds.length r.a.c)) O O O_.a O) O (vM O O O (vE (v:=(pP (pB r.a.p) (pO r.a.p+i*4))) O (AF (j:=i) O O r.a.ok underlying22 sizeOf96 O Z) O (vE (v:=(aG (En (r.ds.getD i E2)))) O (AQ (vs:=En (r.ds.getD i E2)) (i:=5) O O (An.ne r.a.ok Z) c9 (Al Gk _ _ _ Z) (Gk _)) O (zp O ?_)))))))))))
  refine ck' call37 (Z5 (r.ds.getD i E2) (r.ok Z)) O (zj (sl sr) (zp O (zZ (V:=λb4=>(qw (jk b4) 1 1)) (T:=99) (cs:=BB (G4 (r.ds.getD i E2))) (AJ O) (Af (z:=.agg (BB (⟨0,0⟩:Pt)).toArray) (cs:=BB (G4 (r.ds.getD i E2))) (pv:=[(0,(aG (BB (G4 (r.ds.getD i E2)))))]) underlying28 sizeOf99 zeroValue99 jY jY O (LZ (G4 (r.ds.getD i E2)))) O (Av O) λb4=>zj (sl (sl sr)) (zp O (yT (j:=0) (cs2:=rowsL BB (ps++[G4 (r.ds.getD i E2)])) bH O h1 (AV Bs _) O O O O jY (FD Z) Z (by rw [BI];rfl) O λp_1 c_1 ho_1 hne_1=>zj (sl (sl sr)) (vE (v:=(pP b3 0)) O (AA O underlying30 O sizeOf28 O) O (yC O (Ek 2 (off:=0) (vs:=[(qw p_1 (ps.length+1) c_1)]) (cs':=[(qw p_1 (ps.length+1) c_1),(qw ptb r.ts.length ctb),(qw psb r.ss.length csb)]) (AJ O) O sizeOf28 O (zD (sl (sl (sl sr))) ?_)))))))))
  refine zT (zB (sL [1,2,3,4] O) (zJ (zA (zH (AM O (AG (AW (c:=((i+1:Nat):Int)) O O (AU (a:=i) (b:=1) Z)) O (asg' O (oNl' (zB (sL [1,2,3,4] O) ?_)))))))))
  rw [show ps.length+1=(ps++[G4 (r.ds.getD i E2)]).length by simp]
  exact zu (i+1) p_1 c_1 (ps++[G4 (r.ds.getD i E2)]) (⟨Z,(by simpa using ho_1),by rw [hps,PM r Z]⟩) Z (sF O) (sl sr)
 ·replace hc0:=xQ hc0
  exact zU (zP (zr (zS (q2 (BD 1 Do O (Ek 4 (off:=0) (vs:=[(qw p1 ps.length c1),(qw ptb r.ts.length ctb),(qw psb r.ss.length csb)]) (cs':=[(qw p1 ps.length c1),(qw ptb r.ts.length ctb),(qw psb r.ss.length csb)]) (AJ O) O sizeOf30 O (oNl' (zB (sL [1,2,3,4] O) (zA (zF (ret_one O (Ai (i:=4) (cs:=[(qw p1 ps.length c1),(qw ptb r.ts.length ctb),(qw psb r.ss.length csb)]) O O isAgg30 sizeOf30 O) (λw hw=>(by have hpf:ps=r.ps:=(by rw [hps,show i=r.ds.length by omega,<-r.pl,List.take_length]);subst hpf;exact dB hw 0 3 2 O O O h1 otb osb O O O O)))))))))))))
theorem J7 (x0:Z3):Instr.fill (λi=>some (i*3,3)) ((Array.range (1*3)).map ((Value.agg (AS ((0,0,0):Z3)).toArray).cells[·%(Value.agg (AS ((0,0,0):Z3)).toArray).cells.size]!)) [(0,.agg (AS x0).toArray)]=some (AS x0).toArray:=by kernel_rfl
set_option maxHeartbeats 1000000 in
theorem Kh (r:RW) (hl1:r.ds.length<=24) (hl2:r.ts.length<=24) (hl3:r.ss.length<=60) (w:World) {S:Nat->Prop} (hr:Ro S w r):Calls prog 13 #[(aG (Ed r))] w (Ad (GK r.ps r.ts r.ss) S w):=by
 have lr:=Bx (W:=w) hr
 refine AX (args:=[(aG (Ed r))]) (L:=[AB r.a.p (rowsL En r.ds),AB r.b.p (rowsL AS r.ts),AB r.c.p (rowsL AS r.ss)]) func13 O O (Av O) (DF hr Ah) (zN (sL [0] O) (q4 (Bb (cs:=Ed r) O λb1=>al JK O λb2=>q3 (sL [1,2] O) (AG (v:=(pP b1 1)) (AA O underlying26 O sizeOf23 O) O (Az 1 (qw r.b.p r.ts.length r.b.c) B1 O (zf 105 3 (zy I3 O OwnOk.none O (JV (k:=4) O r.b.ok) (AV A7 _) (Cu Fm _) (FD Z) Z O λptb ctb otb=>AG (v:=(aG ([jj,(qw ptb r.ts.length ctb),jj]))) (AT (zs:=[jj,jj,jj]) (vs:=[jj,(qw ptb r.ts.length ctb),jj]) (pv:=[(1,(qw ptb r.ts.length ctb))]) (places:=[(0,1),(1,1),(2,1)]) zeroValue39 underlying39 (λw=>by simp [sizeOf23,sizeOf36,sizeOf37]) O O) O (al JK O λb3=>?_))))))))
 refine Ax O sizeOf39 O (zf 121 6 (zf 119 3 (q6 (sL [1,2,3] O) (q4 (asg' O (oNl' (zA (zI ?_))))))))
 refine yO (tg λ(i:Nat) (p2:Option Addr) (c2:Nat) (ss:List Z3)=>i<=r.ss.length/\OwnOk p2 ss.length c2/\ss=r.ss.take i) (tg λ(i:Nat) (p2:Option Addr) (c2:Nat) (ss:List Z3)=>[(1,(pP b1 0)),(2,(pP b2 0)),(3,(pP b3 0)),(4,(vN i))]) (tg λ(i:Nat) (p2:Option Addr) (c2:Nat) (ss:List Z3)=>[rowW p2 119 3 ss.length c2 (rowsL AS ss),rowW none 121 6 0 0 (rowsL BK ([]:List RP)),AR b3 39 ([jj,(qw ptb r.ts.length ctb),(qw p2 ss.length c2)]),rowW ptb 105 3 r.ts.length ctb (rowsL AS r.ts),AR b2 39 ([jj,jj,jj]),AR b1 26 (Ed r),AB r.a.p (rowsL En r.ds),AB r.b.p (rowsL AS r.ts),AB r.c.p (rowsL AS r.ss)]) (tg λ(i:Nat) (p2:Option Addr) (c2:Nat) (ss:List Z3)=>r.ss.length-i) 0 none 0 ([]:List Z3) (⟨xH _,OwnOk.none,rfl⟩) (sF O) sr (λi p2 c2 ss hJ=>?_)
 obtain ⟨hi,h2,hss⟩:=hJ
 have hsl:ss.length<=60:=by rw [hss,List.length_take];omega
 refine zV (q4 (AM O (AG (v:=(pP b1 2)) (AA O underlying26 O sizeOf24 O) O (Az 5 (qw r.c.p r.ss.length r.c.c) Gh O (AG (v:=(vN r.ss.length)) (AC O underlying24) O (AG (Ae (c:=(decide (i<r.ss.length))) O O (CM (a:=i) (b:=r.ss.length))) O (oNl' (zB (sL [1,2,3,4,14] O) (zA ?_)))))))))
 refine zM O (λhc0=>?_) (λhc0=>?_)
 ·replace hc0:=xR hc0
  refine zG (q1 (zI (rC [(0,true),(1,true),(2,true),(3,true),(4,true),(5,true),(6,true),(7,true),(8,true),(9,true),(10,true),(11,true),(12,true),(13,true),(14,true),(15,true),(16,true),(17,true),(18,true),(19,true),(20,true),(21,false),(22,false),(23,true)] 24 [] (sl sr) (sk (sl sr)) jV (λ_ _ d _ _ h=>by cases d<;>exact h) (vE (v:=(pP b3 2)) O (AA O underlying39 O sizeOf37 O) O (vE O (AE (i:=1) (v:=(qw p2 ss.length c2)) O O HN.a O) O (vE (v:=(pP b1 2)) O (AA O underlying26 O sizeOf24 O) O (vE O (AE (i:=4) (v:=(qw r.c.p r.ss.length r.c.c)) O O Gh.a O) O (vM O O O (vE (v:=(pP (pB r.c.p) (pO r.c.p+i*3))) O (AF (j:=i) O O r.c.ok underlying24 sizeOf110 O Z) O (vE (v:=(pP (pB r.c.p) (pO r.c.p+(i*3+0)))) O (AA O underlying110 O sizeOf3 (Nat.add_assoc _ _ _)) O (vE O (AK (v:=(vI ((r.ss.getD i ((0,0,0):Z3)).1))) (i:=7) O O (An.ne r.c.ok Z) BN (BS A7 ((0,0,0):Z3) _ _ 0 Z jY O)) O ?_)))))))))))
  refine vE (v:=(pP b1 2)) O (AA O underlying26 O sizeOf24 O) O (vE O (AE (i:=4) (v:=(qw r.c.p r.ss.length r.c.c)) O O Gh.a O) O (vM O O O (vE (v:=(pP (pB r.c.p) (pO r.c.p+i*3))) O (AF (j:=i) O O r.c.ok underlying24 sizeOf110 O Z) O (vE (v:=(pP (pB r.c.p) (pO r.c.p+(i*3+1)))) O (AA O underlying110 O sizeOf3 (Nat.add_assoc _ _ _)) O (vE O (AK (v:=(vI ((r.ss.getD i ((0,0,0):Z3)).2.1))) (i:=7) O O (An.ne r.c.ok Z) BN (BS A7 ((0,0,0):Z3) _ _ 1 Z jY O)) O (vE (v:=(pP b1 2)) O (AA O underlying26 O sizeOf24 O) O (vE O (AE (i:=4) (v:=(qw r.c.p r.ss.length r.c.c)) O O Gh.a O) O (vM O O O (vE (v:=(pP (pB r.c.p) (pO r.c.p+i*3))) O (AF (j:=i) O O r.c.ok underlying24 sizeOf110 O Z) O (vE (v:=(pP (pB r.c.p) (pO r.c.p+(i*3+2)))) O (AA O underlying110 O sizeOf3 (Nat.add_assoc _ _ _)) O (vE O (AK (v:=(vI ((r.ss.getD i ((0,0,0):Z3)).2.2))) (i:=7) O O (An.ne r.c.ok Z) BN (BS A7 ((0,0,0):Z3) _ _ 2 Z jY O)) O ?_)))))))))))
  refine vE (v:=(aG ([(vI ((r.ss.getD i ((0,0,0):Z3)).1)),(vI ((r.ss.getD i ((0,0,0):Z3)).2.1)),(vI ((r.ss.getD i ((0,0,0):Z3)).2.2))]))) O (AT (zs:=AS ((0,0,0):Z3)) (vs:=[(vI ((r.ss.getD i ((0,0,0):Z3)).1)),(vI ((r.ss.getD i ((0,0,0):Z3)).2.1)),(vI ((r.ss.getD i ((0,0,0):Z3)).2.2))]) (pv:=[(0,(vI ((r.ss.getD i ((0,0,0):Z3)).1))),(1,(vI ((r.ss.getD i ((0,0,0):Z3)).2.1))),(2,(vI ((r.ss.getD i ((0,0,0):Z3)).2.2)))]) (places:=[(0,1),(1,1),(2,1)]) zeroValue119 underlying119 (λw=>by simp [sizeOf3]) O O) O (zp O (zZ (V:=λb4=>(qw (jk b4) 1 1)) (T:=119) (cs:=AS ((((r.ss.getD i ((0,0,0):Z3)).1),((r.ss.getD i ((0,0,0):Z3)).2.1),((r.ss.getD i ((0,0,0):Z3)).2.2)):Z3)) (AJ O) (Af (z:=.agg (AS ((0,0,0):Z3)).toArray) (cs:=AS ((((r.ss.getD i ((0,0,0):Z3)).1),((r.ss.getD i ((0,0,0):Z3)).2.1),((r.ss.getD i ((0,0,0):Z3)).2.2)):Z3)) (pv:=[(0,(aG ([(vI ((r.ss.getD i ((0,0,0):Z3)).1)),(vI ((r.ss.getD i ((0,0,0):Z3)).2.1)),(vI ((r.ss.getD i ((0,0,0):Z3)).2.2))])))]) underlying37 sizeOf119 zeroValue119 jY jY O (J7 ((((r.ss.getD i ((0,0,0):Z3)).1),((r.ss.getD i ((0,0,0):Z3)).2.1),((r.ss.getD i ((0,0,0):Z3)).2.2)):Z3))) O (Av O) λb4=>zj (sl (sl sr)) (zp O (yT (j:=0) (cs2:=rowsL AS (ss++[((((r.ss.getD i ((0,0,0):Z3)).1),((r.ss.getD i ((0,0,0):Z3)).2.1),((r.ss.getD i ((0,0,0):Z3)).2.2)):Z3)])) Zw O h2 (AV A7 _) O O O O jY (FD Z) Z (by rw [BI];rfl) O λp_1 c_1 ho_1 hne_1=>zj (sl (sl sr)) (vE (v:=(pP b3 2)) O (AA O underlying39 O sizeOf37 O) O (yC O (Ek 3 (off:=2) (vs:=[(qw p_1 (ss.length+1) c_1)]) (cs':=[jj,(qw ptb r.ts.length ctb),(qw p_1 (ss.length+1) c_1)]) (AJ O) O sizeOf37 O (zD (sl (sl (sk (sl sr)))) (zT ?_)))))))))
  refine zB (sL [1,2,3,4] O) (zJ (zA (zH (AM O (AG (AW (c:=((i+1:Nat):Int)) O O (AU (a:=i) (b:=1) Z)) O (asg' O (oNl' (zB (sL [1,2,3,4] O) ?_))))))))
  rw [show ss.length+1=(ss++[((((r.ss.getD i ((0,0,0):Z3)).1),((r.ss.getD i ((0,0,0):Z3)).2.1),((r.ss.getD i ((0,0,0):Z3)).2.2)):Z3)]).length by simp]
  exact zu (i+1) p_1 c_1 (ss++[((((r.ss.getD i ((0,0,0):Z3)).1),((r.ss.getD i ((0,0,0):Z3)).2.1),((r.ss.getD i ((0,0,0):Z3)).2.2)):Z3)]) (⟨Z,(by simpa using ho_1),by rw [hss,Bd (d:=(0,0,0)) Z]⟩) Z (sF O) (sl sr)
 ·replace hc0:=xQ hc0
  have hsf:ss=r.ss:=by rw [hss,show i=r.ss.length by omega,List.take_length]
  refine zU (zP (zr (zS (q1 (q4 (asg' O (oNl' (zA (zI ?_)))))))))
  refine yO (tg λ(i:Nat) (p1:Option Addr) (c1:Nat) (rs:List RP)=>i<=r.ds.length/\OwnOk p1 rs.length c1/\rs.map (·.p)=r.ps.take i/\∀y∈Bi rs,∀b,y.foot=some b->Nw ⟨w,none⟩ S b) (tg λ(i:Nat) (p1:Option Addr) (c1:Nat) (rs:List RP)=>[(1,(pP b1 0)),(2,(pP b2 0)),(3,(pP b3 0)),(5,(vN i))]) (tg λ(i:Nat) (p1:Option Addr) (c1:Nat) (rs:List RP)=>(rowW p2 119 3 ss.length c2 (rowsL AS ss)::rowW p1 121 6 rs.length c1 (rowsL BK rs)::AR b3 39 ([(qw p1 rs.length c1),(qw ptb r.ts.length ctb),(qw p2 ss.length c2)])::rowW ptb 105 3 r.ts.length ctb (rowsL AS r.ts)::AR b2 39 ([jj,jj,jj])::AR b1 26 (Ed r)::AB r.a.p (rowsL En r.ds)::AB r.b.p (rowsL AS r.ts)::AB r.c.p (rowsL AS r.ss)::Bi rs)) (tg λ(i:Nat) (p1:Option Addr) (c1:Nat) (rs:List RP)=>r.ds.length-i) 0 none 0 ([]:List RP) (⟨xH _,OwnOk.none,rfl,(λy hy=>by cases hy)⟩) (sF O) sr (λi p1 c1 rs hJ=>?_)
  obtain ⟨hi,h1,hps,hat⟩:=hJ
  have hpl:rs.length<=24:=by rw [<-xI (f:=(·.p)),hps,List.length_take];omega
  refine zV (q4 (AM O (AG (v:=(pP b1 0)) (AA O underlying26 O sizeOf22 O) O (Az 5 (qw r.a.p r.ds.length r.a.c) O_ O (AG (v:=(vN r.ds.length)) (AC O underlying22) O (AG (Ae (c:=(decide (i<r.ds.length))) O O (CM (a:=i) (b:=r.ds.length))) O (oNl' (zB (sL [1,2,3,5,45] O) (zA ?_)))))))))
  refine zM O (λhc1=>?_) (λhc1=>?_)
  ·replace hc1:=xR hc1
   refine zG (q1 (zI (rC [(0,true),(1,true),(2,true),(3,true),(4,true),(5,true),(6,true),(7,false),(8,false),(9,false),(10,true)] 11 [] (sk (sl sr)) (sk (sl sr)) jV (λ_ _ d _ _ h=>by cases d<;>exact h) (vE (v:=(pP b3 0)) O (AA O underlying39 O sizeOf36 O) O (vE O (AE (i:=1) (v:=(qw p1 rs.length c1)) O O Ez.a O) O (vE (v:=(pP b1 0)) O (AA O underlying26 O sizeOf22 O) O (vE O (AE (i:=4) (v:=(qw r.a.p r.ds.length r.a.c)) O O O_.a O) O (vM O O O (vE (v:=(pP (pB r.a.p) (pO r.a.p+i*4))) O (AF (j:=i) O O r.a.ok underlying22 sizeOf96 O Z) O (vE (v:=(aG (En (r.ds.getD i E2)))) O (AQ (vs:=En (r.ds.getD i E2)) (i:=5) O O (An.ne r.a.ok Z) c9 (Al Gk _ _ _ Z) (Gk _)) O (zp O ?_)))))))))))
   refine cP (S:=S) (x:=(G4 (r.ds.getD i E2))) (args:=[(aG (En (r.ds.getD i E2)))]) call48 (λw hw=>X9 (r.ds.getD i E2) (r.ok Z) w) O O O λg1 lg1=>zj (sl (sl (sl (sl (sk (sl sr)))))) (zp O (zZ (V:=λb4=>(qw (jk b4) 1 1)) (T:=121) (cs:=C2 g1) (AJ O) (Af (z:=.agg #[(qa false),jj,jj,(qa false),jj,jj]) (cs:=C2 g1) (pv:=[(0,(aG (C2 g1)))]) underlying36 sizeOf121 zeroValue121 jY jY O (VN g1)) O (Av O) λb4=>zj (sl (sl (sl (sl (sl (sk (sl sr))))))) (zp O (zh 6 (j:=0) (cs2:=rowsL BK (rs++[(⟨_,g1⟩:RP)])) X2 O h1 (AV B0 _) O O O O O jY (FD Z) Z (by rw [BI];rfl) O λp_2 c_2 ho_2 hne_2=>zj (sl (sl (sl (sl (sl (sk (sl sr))))))) (vE (v:=(pP b3 0)) O (AA O underlying39 O sizeOf36 O) O (yC O (Ek 7 (off:=0) (vs:=[(qw p_2 (rs.length+1) c_2)]) (cs':=[(qw p_2 (rs.length+1) c_2),(qw ptb r.ts.length ctb),(qw p2 ss.length c2)]) (AJ O) O sizeOf36 O (zD (sl (sl (sl (sl (sl (sk (sl (sl sr)))))))) ?_))))))))
   refine zT (zB (sL [1,2,3,5] O) (zJ (zA (zH (AM O (xF (sl sr) (yM (show List.Perm _ (rowW p2 119 3 ss.length c2 (rowsL AS ss)::rowW p_2 121 6 (rs.length+1) c_2 (rowsL BK (rs++[(⟨_,g1⟩:RP)]))::AR b3 39 ([(qw p_2 (rs.length+1) c_2),(qw ptb r.ts.length ctb),(qw p2 ss.length c2)])::rowW ptb 105 3 r.ts.length ctb (rowsL AS r.ts)::AR b2 39 ([jj,jj,jj])::AR b1 26 (Ed r)::AB r.a.p (rowsL En r.ds)::AB r.b.p (rowsL AS r.ts)::AB r.c.p (rowsL AS r.ss)::Bi (rs++[(⟨_,g1⟩:RP)])) from VO (⟨_,g1⟩:RP) [rowW p2 119 3 ss.length c2 (rowsL AS ss),rowW p_2 121 6 (rs.length+1) c_2 (rowsL BK (rs++[(⟨_,g1⟩:RP)])),AR b3 39 ([(qw p_2 (rs.length+1) c_2),(qw ptb r.ts.length ctb),(qw p2 ss.length c2)]),rowW ptb 105 3 r.ts.length ctb (rowsL AS r.ts),AR b2 39 ([jj,jj,jj]),AR b1 26 (Ed r),AB r.a.p (rowsL En r.ds),AB r.b.p (rowsL AS r.ts),AB r.c.p (rowsL AS r.ss)] rs) (AG (AW (c:=((i+1:Nat):Int)) O O (AU (a:=i) (b:=1) Z)) O (asg' O (oNl' (zB (sL [1,2,3,5] O) ?_)))))))))))
   rw [show rs.length+1=(rs++[(⟨_,g1⟩:RP)]).length by simp]
   exact zu (i+1) p_2 c_2 (rs++[(⟨_,g1⟩:RP)]) (⟨Z,(by simpa using ho_2),by rw [List.map_append,hps,PM r Z];rfl,At.snoc hat lg1⟩) Z (sF O) sr
  ·replace hc1:=xQ hc1
   exact zU (zP (zr (zS (q2 (BD 2 Cp O (Ek 4 (off:=0) (vs:=[(qw p1 rs.length c1),(qw ptb r.ts.length ctb),(qw p2 ss.length c2)]) (cs':=[(qw p1 rs.length c1),(qw ptb r.ts.length ctb),(qw p2 ss.length c2)]) (AJ O) O sizeOf39 O (oNl' (zB (sL [1,2,3,5] O) (zA (zF (ret_one O (Ai (i:=4) (cs:=[(qw p1 rs.length c1),(qw ptb r.ts.length ctb),(qw p2 ss.length c2)]) O O isAgg39 sizeOf39 O) (λw hw=>(by rw [<-hsf];exact N3 (A:=[rowW p2 119 3 ss.length c2 (rowsL AS ss),rowW p1 121 6 rs.length c1 (rowsL BK rs),AR b3 39 ([(qw p1 rs.length c1),(qw ptb r.ts.length ctb),(qw p2 ss.length c2)]),rowW ptb 105 3 r.ts.length ctb (rowsL AS r.ts),AR b2 39 ([(qw p1 rs.length c1),(qw ptb r.ts.length ctb),(qw p2 ss.length c2)]),AR b1 26 (Ed r),AB r.a.p (rowsL En r.ds),AB r.b.p (rowsL AS r.ts),AB r.c.p (rowsL AS r.ss)]) hw 1 3 0 O O O h1 otb h2 O O O (by rw [hps,show i=r.ds.length by omega,<-r.pl,List.take_length]) hat O)))))))))))))
end
end Go.Proofs.YtpolhpjiahbidaaGreatDoor
