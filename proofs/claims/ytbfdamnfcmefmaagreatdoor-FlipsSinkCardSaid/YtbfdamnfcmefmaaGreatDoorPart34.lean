import Derived.Lib.ItoaLen
import Derived.Laws.IdiomStrings
import Derived.Laws.Strings
import Derived.Test.YtbfdamnfcmefmaaGreatDoorPart32
import Derived.Test.YtbfdamnfcmefmaaGreatDoorPart33
namespace Go.Proofs.YtbfdamnfcmefmaaGreatDoor
open Go Go.RowKit Go.Proofs.Tryz
open Go.Value renaming slice→qz,bool→qa
set_option linter.unusedVariables false
set_option linter.unusedSimpArgs false
section
def ZH (l:List UInt8):List Value:=l.map λx=>Value.int .u8 (x.toNat:Int)
theorem Kq (l:List UInt8):(ZH l).length=l.length:=by simp [ZH]
def SI (w : World) : Prop := Lib.TabIs Tryz.prog w "internal/strconv.uint64pow10" .u64 Lib.pow10Tab
theorem Sd (zq:Nat) (hZ:zq=24) (b u:Nat) (T:TypeId) (w:World) (hb:w.heap[b]?=some (.cells (List.replicate zq (Value.int .u8 0)).toArray T (0,0))) (hu:u<18446744073709551616) :
    Calls prog 245 #[.slice (jk b) (Lib.nDigits u) 24,.int .u64 u] w λe w'=>e=.returned (.tuple #[])/\Jy w w' (some b)/\∃o,w'.heap[b]?=some o/\Hh 0 (ZH (Lib.decDigits u)) o:=by
  have hnd:=Lib.nDigits_le20 u hu
  have hH:Go.Sort.Holds (λ(b:UInt8)=>Value.int .u8 (b.toNat:Int)) w b 0 (Array.replicate (Lib.nDigits u) (0:UInt8)):=λj hj=>by
    have hj':j<Lib.nDigits u:=by simpa using hj
    refine ⟨?_,by simp [World.frozen?,hb]⟩
    rw [cell_of_row w b _ _ T (0,0) hb,getElem!_pos _ j hj]
    simp [show j<zq by omega]
  have h:=Tryz.internal_strconv_formatBase10 b 0 24 u (Array.replicate (Lib.nDigits u) 0) w hH (by rw [Array.size_replicate];exact Lib.lt_pow_nDigits u) hu (by rw [Array.size_replicate];omega)
  rw [Array.size_replicate] at h
  refine h.mono ?_
  rintro e w' ⟨rfl,n,v',dk,rfl,hF⟩
  refine ⟨rfl,⟨⟨rfl,rfl,rfl,by simp [Go.Sort.putRow,Go.Sort.mapBlock],λk hk hne=>?_⟩,(by show w.drawn<=w.drawn+n;omega)⟩,_,(by simp only [World.heap_drewN,Go.Sort.putRow,Go.Sort.mapBlock,Array.getElem?_modify,hb,if_true,Option.map_some,Go.Sort.onCells]:_=some (.cells (Go.Sort.putCells (λ(b:UInt8)=>Value.int .u8 (b.toNat:Int)) 0 dk (List.replicate zq (Value.int .u8 0)).toArray) T (0,0))),_,T,(0,0),rfl,?_⟩
  · have:b≠k:=λe=>hne (by rw [e])
    simp [Go.Sort.putRow,Go.Sort.mapBlock,Array.getElem?_modify,this]
  · have hsz:dk.size=Lib.nDigits u:=hF.size
    rw [Kq,Lib.decDigits_length]
    apply List.ext_getElem?
    intro j
    by_cases hj:j<Lib.nDigits u
    · have hjd:j<(Lib.decDigits u).length:=by rw [Lib.decDigits_length];exact hj
      rw [List.drop_zero,List.getElem?_take_of_lt hj,Array.getElem?_toList]
      have e1:=Lib.row_is_numeral hF j hjd
      simp only [ZH,List.getElem?_map,xQ hjd,e1,Option.map_some]
      simp [Go.Sort.putCells,hj,hsz,show j<zq by omega]
    · rw [List.getElem?_take_eq_none Z,List.getElem?_eq_none (by rw [Kq,Lib.decDigits_length];omega)]
theorem U_ (b u:Nat) (T:TypeId) (w:World) (hb:w.heap[b]?=some (.cells (List.replicate 24 (Value.int .u8 0)).toArray T (0,0))) (hu:u<18446744073709551616) :
    Calls prog 245 #[.slice (jk b) (Lib.nDigits u) 24,.int .u64 u] w λe w'=>e=.returned (.tuple #[])/\Jy w w' (some b)/\∃o,w'.heap[b]?=some o/\Hh 0 (ZH (Lib.decDigits u)) o:=Sd 24 rfl b u T w hb hu
theorem SI.below {w w':World} (h:SI w) (hb:Ht w.heap.size w w'):SI w':=by
  unfold SI Lib.TabIs World.var? at *
  cases hg : Tryz.prog.globalNamed "internal/strconv.uint64pow10" with
  | none=>simp [hg] at h
  | some g =>
    simp only [hg,Option.bind_some] at h ⊢
    have hlt:g<w.heap.size:=by
      rcases Nat.lt_or_ge g w.heap.size with h'|h'
      · exact h'
      · rw [Array.getElem?_eq_none h'] at h;simp at h
    rw [hb.block g hlt]
    exact h
theorem YU (u:Nat) (h1:1<=u) (h2:u<18446744073709551616) (w:World) (hT:SI w):Calls prog 244 #[vK .u64 u] w (Ag w (vN (Lib.nDigits u))) :=
  (Tryz.internal_strconv_numDigits u h1 h2 w hT).mono λe w' h=>⟨h.1,h.2▸Ht.refl _ _⟩
theorem TL (i:Nat) (h:i<100) (w:World):Calls prog 243 #[vN i] w (Ag w (.string (txB (Lib.decDigits i)))) :=
  (Tryz.internal_strconv_small i h w).mono λe w' h=>⟨h.1,h.2▸Ht.refl _ _⟩
section
variable {ops:Array Oper} {rest:List Oper} {Q:Exit->Act->World->Prop} {n:Nat} {F:List (Nat×Value)} {w0:BF} {L:List As} {t:TypeId} {p:String} {af:Array Edge} {d:Option Tmp} {g:Option (Nat×Bool)} {x:Operand}
theorem AU.callRow {P:Program} {o:Oper} {f:FuncId} {args:Array Value} {v:Value} (i:Nat) {b:Nat} {T:TypeId} {cs cs':List Value} (hw:Wt ops n F o)
    (he:∀a w,C1 n a F->BI w0 w L->(execOp a.eval o).run P w=.ok (.enter f args) w) (hi:L[i]?=some (AX b T cs))
    (hc:∀w,BI w0 w L->Calls P f args w λe w'=>e=.returned v/\Jy w w' (some b)/\∃o,w'.heap[b]?=some o/\Hh 0 cs' o)
    (hd:∀d,o.dst=some d->d<n) (next:AU P ops rest Q n (match o.dst with|some d=>(d,v)::F|none=>F) w0 (L.set i (AP (jk b) cs'))):AU P ops (o::rest) Q n F w0 L:=λa w ha hW=>by
  unfold wpList
  rw [if_pos (hw a ha)]
  left
  unfold Oper.wp
  rw [he a w ha hW,Oper.upon_enter]
  refine (hc w hW).mono ?_
  rintro e w' ⟨rfl,hg,o',hcell,hl⟩
  have hW':=hW.turn hi rfl rfl hg ⟨o',hcell,hl⟩ (y:=AP (jk b) cs')
  cases hdd:o.dst with
  | none=>rw [hdd] at next;exact next _ _ ha.put_none hW'
  | some d=>rw [hdd] at next;exact next _ _ (ha.put (hd d hdd)) hW'
theorem Fa {P:Program} {tx e:TypeId} {b len k m:Nat} {ki:IntKind} {hi:Operand} (hx:evF F x=some (.pointer (jk b))) (hh:evF F hi=some (.int ki (m:Nat))) (hu:P.underlying tx=some (.array len e)) (hs:∀w,(sizeOf e).run P w=.ok k w) (hm:m<=len) (h0:0<len) :
    Ex P n F w0 L ⟨d,.slice tx x none (some hi) none,t,p,af,g⟩ (.slice (jk b) m len):=λA w ha _=>by
  have e1:¬len=0:=by omega
  simp [execOp,ha.ev hx,ha.ev hh,Instr.sliceAt,run_underlying hu,Instr.sureAddr,Instr.sliceBounds,Instr.sliceBound,asIntOf,hs,e1,hm,Addr.add_lit]
theorem MP {P:Program} {src dst e:TypeId} {b k:Nat} {cap m:Nat} {l:List UInt8} (hx:evF F x=some (.slice (jk b) m cap)) (hm:m=l.length) (hi:L[k]?=some (AP (jk b) (ZH l))) (hs:P.underlying src=some (.slice e)) (he:P.underlying e=some (.int .u8)) (hd:P.underlying dst=some .string) :
    Ex P n F w0 L ⟨d,.convert src dst x,t,p,af,g⟩ (.string (txB l)):=λA w hf hW=>by
  subst hm
  have h:=run_convert_bytes_back (P:=P) w src dst e ⟨b,0,none⟩ cap l hs he hd (λj hj=>by
    obtain ⟨o,ho,hp⟩:=hW.holds hi b rfl
    rw [Addr.add_lit]
    exact Hh.cell hp ho (by simp [ZH,hj]))
  simp only [execOp,hf.ev hx,Sem.run_bind,h,Result.andThen_ok,Sem.run_pure]
  rfl
end
end
section
set_option maxRecDepth 100000
theorem PB (n:Nat) (hn:n<18446744073709551616) (w:World) (hT:SI w):Calls prog 197 #[(vK .u64 n),(vI 10)] w (Ag w (Value.string (txB (Lib.decDigits n)))):=by
 have hnd:=Lib.nDigits_le20 n hn
 refine AW (args:=[(vK .u64 n),(vI 10)]) func197 O O (BE O) (zM (sL [0,1] O) (q4 (asg' O (oNl' (q1 (q4 (AM O (AC (BM (c:=true) O O jY) O (oNl' (zB (sL [0,1,4,10] O) (zA ?_)))))))))))
 refine zV O (zY (q4 (AM O (AC (Aa (c:=(decide (n<100))) O O (DF (a:=n) (b:=100))) O (oNl' (zB (sL [0,1,4,12] O) (zA ?_)))))))
 refine zL O (λhc1=>?_) (λhc1=>?_)
 ·replace hc1:=xU hc1
  exact q4 (AM O (AC (Ar (c:=((n:Nat):Int)) O underlying60 underlying3 (CC Z)) O (ck' call243 (TL n Z) O (asg' O (oNl' (zB (sL [0,1,4] O) (zA (zH (zJ (zJ (ret_one O (rd_tmp (v:=(Value.string (txB (Lib.decDigits n)))) O) (λw hw=>⟨rfl,hw.out⟩))))))))))))
 ·replace hc1:=xT hc1
  refine zC (q2 (al cV O λb1=>oNl' (q2 (AM O (C7 call244 (λw hw=>YU n Z Z w (hT.below hw.out)) O (asg' O (q3 (sL [0,1,4,5,6] O) (AM O (AC (v:=(qz (jk b1) (Lib.nDigits n) 24)) (Fa (len:=24) (m:=Lib.nDigits n) O O underlying308 sizeOf5 Z jY) O (AM O ?_))))))))))
  exact AU.callRow 0 (cs':=ZH (Lib.decDigits n)) (v:=(Value.tuple #[])) (AK O) (Ao (args:=[(qz (jk b1) (Lib.nDigits n) 24),(vK .u64 n)]) O O call245) O (λw hw=>U_ _ _ 308 w (hw.get (i:=0) O) hn) (λd hd=>by cases hd<;>exact (BE O)) (q3 (sL [0,1,4,5,6] O) (AM O (AC (v:=(qz (jk b1) (Lib.nDigits n) 24)) (Fa (len:=24) (m:=Lib.nDigits n) O O underlying308 sizeOf5 Z jY) O (AC (v:=(Value.string (txB (Lib.decDigits n)))) (MP (k:=0) O (Lib.decDigits_length n).symm O underlying22 underlying5 underlying9) O (asg' O (oNl' (zB (sL [0,1,4,5,6] O) (zA (zH (zJ (ret_one O (rd_tmp (v:=(Value.string (txB (Lib.decDigits n)))) O) (λw hw=>⟨rfl,hw.out⟩))))))))))))
theorem QI (n:Nat) (hn:n<18446744073709551616) (w:World) (hT:SI w):Calls prog 151 #[(vK .u64 n),(vI 10)] w (Ag w (Value.string (txB (Lib.decDigits n)))):=by
 refine AW (args:=[(vK .u64 n),(vI 10)]) func151 O O (BE O) (zM (sL [0,1] O) (q4 (asg' O (oNl' (q2 (AM O (AM O (C7 call197 (λw hw=>PB n Z w (hT.below hw.out)) O (asg' O (oNl' (zB (sL [4] O) ?_)))))))))))
 exact zA (zH (ret_one O (rd_tmp (v:=(Value.string (txB (Lib.decDigits n)))) O) (λw hw=>⟨rfl,hw.out⟩)))
end

section
set_option maxRecDepth 100000
theorem Ni {n:Nat} (h:n<18446744073709551616):(Lib.decDigits n).length<=20:=by rw [Lib.decDigits_length];exact Lib.nDigits_le20 n h
theorem Y6 {z:Int} (h:z.natAbs<18446744073709551616):(txI z).length<=21:=by
 have:=Ni h
 unfold txI;split<;>simp<;>omega
theorem JH (n:Nat) (hn:n<18446744073709551616) (w:World) (hT:SI w):Calls prog 96 #[(aG (AV n))] w (Ag w (Value.string (txB (Lib.decDigits n)))):=by
 refine AW (args:=[(aG (AV n))]) func96 O O (BE O) (zM (sL [0] O) (q4 (BZ (cs:=AV n) O λb1=>asg' O (q6 (sL [1,2] O) (q4 (AC (v:=(pP b1 1)) (AA O underlying62 O sizeOf9 O) O (BA 0 (Value.string (Bo n)) Tj O (AC (Bj (c:=(decide (n<18446744073709551616))) O O Cm) O (oNl' (zB (sL [1,2,10] O) ?_))))))))))
 refine zA ?_
 refine zL O (λhc0=>?_) (λhc0=>?_)
 ·replace hc0:=xU hc0
  exact q4 (AC (v:=(pP b1 0)) (AA O underlying62 O sizeOf60 O) O (BA 0 (vK .u64 (CD n)) G9 O (zK (k:=12) (u:=(vK .u64 n)) O (by rw [Bh Z]) (C7 call151 (λw hw=>QI n Z w (hT.below hw.out)) O (asg' O (oNl' (zB (sL [1,2] O) (zA (zH (zJ (ret_one O (rd_tmp (v:=(Value.string (txB (Lib.decDigits n)))) O) (λw hw=>⟨rfl,hw.out⟩))))))))))))
 ·replace hc0:=xT hc0
  exfalso;omega
theorem M7 (z:Int) (hz:z.natAbs<18446744073709551616) (w:World) (hT:SI w):Calls prog 95 #[(aG (A8 z))] w (Ag w (Value.string (txB (txI z)))):=by
 have hl:=Ni hz
 refine AW (args:=[(aG (A8 z))]) func95 O O (BE O) (zM (sL [0] O) (q4 (BZ (cs:=A8 z) O λb1=>asg' O (q6 (sL [1,2] O) (q4 (AC (v:=(pP b1 2)) (AA O underlying66 O sizeOf4 O) O (BA 0 (qa (decide (z<0))) Wj O (oNl' (zB (sL [1,2,4] O) (zA ?_))))))))))
 refine zL O (λhc0=>?_) (λhc0=>?_)
 ·replace hc0:=xU hc0
  have he:txI z=45::Lib.decDigits z.natAbs:=by unfold txI;rw [if_pos hc0]
  exact q4 (AC (v:=(pP b1 0)) (AA O underlying66 O sizeOf64 O) O (AC (v:=(pP b1 0)) (AA O underlying64 O sizeOf62 O) O (Ds 0 (AV z.natAbs) CF O (C7 call96 (λw hw=>JH z.natAbs Z w (hT.below hw.out)) O (AC (v:=(Value.string (txB (45::Lib.decDigits z.natAbs)))) (Fj (r:=(txB (45::Lib.decDigits z.natAbs))) O O (by rw [I0];show 1+_<=_;omega) (IK [45] _)) O (asg' O (oNl' (zB (sL [1,2] O) (zA (zH (zJ (ret_one O (rd_tmp (v:=(Value.string (txB (45::Lib.decDigits z.natAbs)))) O) (λw hw=>⟨by rw [he],hw.out⟩)))))))))))))
 ·replace hc0:=xT hc0
  have he:txI z=Lib.decDigits z.natAbs:=by unfold txI;rw [if_neg hc0]
  exact zC (q2 (AC (v:=(pP b1 0)) (AA O underlying66 O sizeOf64 O) O (AC (v:=(pP b1 0)) (AA O underlying64 O sizeOf62 O) O (Ds 0 (AV z.natAbs) CF O (C7 call96 (λw hw=>JH z.natAbs Z w (hT.below hw.out)) O (asg' O (oNl' (zB (sL [1,2] O) (zA (zH (ret_one O (rd_tmp (v:=(Value.string (txB (Lib.decDigits z.natAbs)))) O) (λw hw=>⟨by rw [he],hw.out⟩))))))))))))
theorem M1 (q:Rat) (hn:q.num.natAbs<18446744073709551616) (hd:q.den<18446744073709551616) (w:World) (hT:SI w):Calls prog 38 #[(aG (AG q))] w (Ag w (Value.string (txB (av q)))):=by
 have hl1:=Y6 hn
 have hl2:=Ni hd
 have hdn:nw q.den<=1099511627776:=xN (Cx.2 (show q.den<4294967296^2 from hd)) jY
 refine AW (args:=[(aG (AG q))]) func38 O O (BE O) (zM (sL [0] O) (q4 (BZ (cs:=AG q) O λb1=>asg' O (q6 (sL [1,2] O) (q4 (Ai 0 Bf O (ck' call94 (Gn q) O (oNl' (zB (sL [1,2,4] O) (zA ?_))))))))))
 refine zL O (λhc0=>?_) (λhc0=>?_)
 ·replace hc0:=xU hc0
  have he:av q=txI q.num:=by unfold av;rw [if_pos hc0]
  exact q4 (AC (v:=(pP b1 0)) (AA O underlying68 O sizeOf66 O) O (Ds 0 (A8 q.num) DU O (C7 call95 (λw hw=>M7 q.num Z w (hT.below hw.out)) O (asg' O (oNl' (zB (sL [1,2] O) (zA (zH (zJ (ret_one O (rd_tmp (v:=(Value.string (txB (txI q.num)))) O) (λw hw=>⟨by rw [he],hw.out⟩)))))))))))
 ·replace hc0:=xT hc0
  have he:av q=txI q.num++[47]++Lib.decDigits q.den:=by unfold av;rw [if_neg hc0,List.append_assoc];rfl
  refine zC (q1 (C_ [(0,true),(1,true),(4,true),(2,false),(3,true),(5,false),(6,false),(7,true),(8,true)] sr (Aj (v:=(pP b1 0)) O (AA O underlying68 O sizeOf66 O) (IS 0 (A8 q.num) DU O (Es 0 Bf O (zN O (C7 call95 (λw hw=>M7 q.num Z w (hT.below hw.out)) O (zG sr (Aj (v:=(Value.string (txB (txI q.num++[47])))) O (Fj (r:=(txB (txI q.num++[47]))) O O (by rw [I0];show _+1<=_;omega) (IK _ [47])) (zN O (ck' call97 (den_ok q Z) O ?_)))))))))))
  exact zG sr (zN O (C7 call96 (λw hw=>JH q.den Z w (hT.below hw.out)) O (zG sr (Aj (v:=(Value.string (txB (txI q.num++[47]++Lib.decDigits q.den)))) O (Fj (r:=(txB (txI q.num++[47]++Lib.decDigits q.den))) O O (by rw [I0,I0,xM,List.length_singleton];omega) (IK _ _)) (pS' O (zQ (zB (sL [1,2] O) (zA (zH (ret_one O (rd_tmp (v:=(Value.string (txB (txI q.num++[47]++Lib.decDigits q.den)))) O) (λw hw=>⟨by rw [he],hw.out⟩)))))))))))
end
section
set_option maxRecDepth 100000
end
section
set_option maxRecDepth 100000
end
section
section
variable {ts:List T3} {a b N:Nat}
end
end
section
set_option maxRecDepth 100000
end
section
set_option maxRecDepth 100000
end
section
set_option maxRecDepth 100000
theorem IV {ps:List Pt} {ts:List T3} {ss:List Z3} (x:MN ps ts ss) (hp:ps.length<=1000000000) (ht:ts.length<=1000000000) (hs:ss.length<=1000000000) (w:World) {S:Nat->Prop} (hx:Ro S w x):Calls prog 27 #[(aG (Cb x))] w (E9 (λa:ZC ps ts ss=>aG (bC a)) bD S w):=by
 obtain ⟨y,hy,hro⟩:=Rq x
 have k:=Tp y hp (by rw [xL];exact ht) hs w (hro hx)
 rw [hy] at k
 exact k.mono λe w' h=>h.toCpN
end
section
set_option maxRecDepth 100000
set_option maxHeartbeats 1000000 in
theorem YV {ps:List Pt} {ts:List T3} {ss:List Z3} (x:MN ps ts ss) (tc:Nat) (hnb:BV ps.length ts=true) (htl:ts.length<=1000000) (hN:ps.length<=1000000) (hz:∀i,Bn (cor ps i)<=200000) (ho1:OwnOk x.b.p ts.length tc) (w:World) {w0:BF} {LR:List As} {S:Nat->Prop} (hnb2:∀b,x.b.p.map (·.block)=some b->w0.w.heap.size<=b) (hda:∀b,x.b.p.map (·.block)=some b->x.a.row.foot≠some b) (hdc:∀b,x.b.p.map (·.block)=some b->x.c.row.foot≠some b) (hdL:∀y∈LR,y.ro=false\/∀b,x.b.p.map (·.block)=some b->y.foot≠some b) (lx:At w0 S x) (hW:BI w0 w (AP x.a.p (rowsL AZ ps)::AP x.b.p (rowsL Ad ts)::AP x.c.p (rowsL Bb ss)::JS x.b.p 71 3 ts.length tc (rowsL Ad ts)::LR)):Calls prog 28 #[(aG (Cb x))] w (λe w'=>e=.returned (qa (H9 ps ts))/\∃u:Unit,True/\BI w0 w' (rowW x.b.p 71 3 ts.length tc (rowsL Ad (FU ps ts))::AP x.a.p (rowsL AZ ps)::AP x.c.p (rowsL Bb ss)::LR)):=by
 refine Mm (args:=[(aG (Cb x))]) func28 O O (BE O) hW (zM (sL [0] O) (q4 (BZ (cs:=Cb x) O λb1=>asg' O (q6 (sL [1,2] O) (q4 (Ai 0 Bg O (cX (S:=S) (cs:=rowsL Bd (BJ ts)) (k:=(BJ ts).length) (args:=[(aG (Cb x))]) call17 (λw hw=>(by obtain ⟨y2,hy2,hro⟩:=ZL x;have h9:=Hu y2 Z Z hnb w (hro (Cd hw 1 O lx));rw [hy2] at h9;exact h9)) O O O λo lo=>?_)))))))
 have hel:=QC ts
 refine AC (v:=(vN ((BJ ts).length))) (AE O underlying51) O (AM O (oNl' (zB (sL [1,2,8,9,10] O) (zA (zI ?_)))))
 refine zw (tg λ(i:Nat)=>i<=(BJ ts).length/\S0 ps ts=nexI ps ts ((BJ ts).drop i) i) (tg λ(i:Nat)=>[(1,(pP b1 0)),(8,(qz o.p ((BJ ts).length) o.c)),(9,(vN ((BJ ts).length))),(10,(vN i))]) (tg λ(i:Nat)=>(AP o.p (rowsL Bd (BJ ts))::AX b1 34 (Cb x)::AP x.a.p (rowsL AZ ps)::AP x.b.p (rowsL Ad ts)::AP x.c.p (rowsL Bb ss)::JS x.b.p 71 3 ts.length tc (rowsL Ad ts)::LR)) (tg λ(i:Nat)=>(BJ ts).length-i) 0 (⟨xK _,rfl⟩) (sF O) sr (λi hJ=>?_)
 obtain ⟨hi,he⟩:=hJ
 refine q4 (AC (Aa (c:=(decide (i<((BJ ts).length)))) O O (DF (a:=i) (b:=(BJ ts).length))) O (oNl' (q1 ?_)))
 refine zL O (λhc0=>?_) (λhc0=>?_)
 ·replace hc0:=xU hc0
  obtain ⟨E,hE⟩:∃q,q=((BJ ts).getD i jA):=⟨_,rfl⟩
  have hEm:E∈BJ ts:=by rw [hE,List.getD,xQ hc0];exact List.getElem_mem hc0
  refine zC (q1 (zI (q4 (AC (v:=(pP (pB o.p) (pO o.p+i*4))) (AO (j:=i) O O o.ok underlying51 sizeOf54 O Z) O (AC (v:=(aG (Bd ((BJ ts).getD i jA)))) (AI (vs:=Bd ((BJ ts).getD i jA)) (i:=0) O O (Aw.ne o.ok Z) G8 (Ae Cr _ _ _ Z) (Cr _)) O (zK (k:=13) (u:=(aG (Bd E))) O (by rw [hE]) (al II O λb2=>Ah O sizeOf54 O (q3 (sL [1,8,9,10,4] O) (Ai 2 Bg O (Ai 0 G8 O ?_))))))))))
  refine C7 call49 (λw hw=>Lm x E hEm hnb hN w (Cd hw 3 O lx)) O (AM O (AC (AJ (v:=(aG (Js (CG ts E)))) O O) O (AC (AJ (v:=(qa (Ci E))) O O) O (al Ly O λb3=>Ah O sizeOf127 O (asg' O (q3 (sL [1,8,9,10,4,5,6] O) (AM O (AM O ?_))))))))
  refine zi (FM:=[(1,(pP b1 0)),(8,(qz o.p ((BJ ts).length) o.c)),(9,(vN ((BJ ts).length))),(10,(vN i)),(4,(pP b2 0)),(5,(pP b3 0)),(6,(qa (Ci E))),(20,(qa (Ci E))),(21,(qa (Ci E))),(26,(qa ((Ci E)&&(!(EN ps ts E)))))]) (LM:=(AX b3 127 (Js (CG ts E))::AX b2 54 (Bd E)::AP o.p (rowsL Bd (BJ ts))::AX b1 34 (Cb x)::AP x.a.p (rowsL AZ ps)::AP x.b.p (rowsL Ad ts)::AP x.c.p (rowsL Bb ss)::JS x.b.p 71 3 ts.length tc (rowsL Ad ts)::LR)) 5 ?_ ?_
  ·rcases xR (Ci E) with hg1|hg1
   ·refine zK (k:=21) (u:=qa true) O (by rw [hg1]) ?_
    have hg1':=hg1
    skip
    exact Av (v:=(aG (Js (CG ts E)))) O (Ab (i:=0) (vs:=Js (CG ts E)) O O G7.a G7.s O O) (Av (v:=(aG (Cb x))) O (Ab (i:=3) (vs:=Cb x) O O Bg.a Bg.s O O) (zg (v:=(qa (EN ps ts E))) (AY O) (Ao (args:=[(aG (Js (CG ts E))),(aG (Cb x))]) O O call50) (λw hw=>PG x E hEm (by simpa using hg1') hnb hN hz w (Cd hw 4 O lx)) O (BE O) (Av (v:=(qa (!(EN ps ts E)))) O (BG (c:=(!(EN ps ts E))) O O) (AC (v:=(qa (!(EN ps ts E)))) (AQ O O) O (oNl' (zT Cc (xS _)))))))
   ·refine zK (k:=21) (u:=qa false) O (by rw [hg1]) ?_
    have hg1':=hg1
    skip
    exact BD O (BD O (BD O (BD O (AC (v:=(qa false)) (AL O O) O (oNl' (zT Cc (xS _)))))))
  refine oNl' (zB (sL [1,8,9,10,4,5,26] O) (zA ?_))
  refine zL O (λhc1=>?_) (λhc1=>?_)
  ·simp only [jK] at hc1
   obtain ⟨hb1,hl1⟩:Ci E=true/\EN ps ts E=false:=by simpa using hc1
   have hfin:=he.trans (Vs hc0 (by rw [<-hE];exact hl1))
   obtain ⟨g1,g2⟩:=EG.1 hb1
   obtain ⟨p,q,c,d,h2⟩:=JX hnb Z hEm g1 g2
   have e9:Js (CG ts E)=[vN E.a,vN E.b,vN p,vN q,vN c,vN d]:=by rw [(Cy h2).1];show [vN E.a,vN E.b,.int .i64 E.l,.int .i64 E.r,vN c,vN d]=_;rw [h2.l,h2.r]
   refine zY (yr (A:=[AX b3 127 (Js (CG ts E)),AX b2 54 (Bd E),AX b1 34 (Cb x),AP x.a.p (rowsL AZ ps),AP x.c.p (rowsL Bb ss)]) (B:=LR) (p:=x.b.p) (T:=71) (z:=3) (m:=ts.length) (cp:=tc) (cs:=rowsL Ad ts) (sk (sk (sl (sk (sk (sl sr)))))) hnb2 (by intro y hy;simp only [xO,List.not_mem_nil,or_false] at hy;rcases hy with rfl|rfl|rfl|rfl|rfl;exact .inl rfl;exact .inl rfl;exact .inl rfl;exact .inr hda;exact .inr hdc) hdL (zD (Ai 0 G7 O (Ai 2 Bg O (yV (L2:=(rowW x.b.p 71 3 ts.length tc (rowsL Ad ts)::AP x.a.p (rowsL AZ ps)::AX b3 127 (Js (CG ts E))::AX b2 54 (Bd E)::AX b1 34 (Cb x)::AP x.c.p (rowsL Bb ss)::LR)) (v:=qa (Dg ps E.a E.b c d)) (α:=Unit) (K:=λ_=>True) (LO:=λ_=>(AX b3 127 (Js (CG ts E))::AX b2 54 (Bd E)::AX b1 34 (Cb x)::AP x.a.p (rowsL AZ ps)::AP x.c.p (rowsL Bb ss)::rowW x.b.p 71 3 ts.length tc (rowsL Ad (Ma ps ts E.a E.b p q c d))::LR)) (AK O) (D_ (args:=[(aG (Js (CG ts E))),(aG (Cb x))]) (caps:=[]) (all:=[(aG (Js (CG ts E))),(aG (Cb x))]) O O O call51) (List.Perm.append_right LR (DR (L:=[AX b3 127 (Js (CG ts E)),AX b2 54 (Bd E),AX b1 34 (Cb x),AP x.a.p (rowsL AZ ps),AP x.c.p (rowsL Bb ss),rowW x.b.p 71 3 ts.length tc (rowsL Ad ts)]) (L':=[rowW x.b.p 71 3 ts.length tc (rowsL Ad ts),AP x.a.p (rowsL AZ ps),AX b3 127 (Js (CG ts E)),AX b2 54 (Bd E),AX b1 34 (Cb x),AP x.c.p (rowsL Bb ss)]) [5,3,0,1,2,4] (show List.Perm [5,3,0,1,2,4] (List.range 6) by decide) O)) (λw hw=>(by have h9:=Ny ps ts E.a E.b p q c d h2.sc.a h2.sc.b h2.sc.c h2.sd.c h2.pl h2.ql hN htl hz x.a.p x.b.p x.c.p x.a.c tc x.b.c ss.length x.c.c ho1 x.b.ok x.a.ok w hw;rw [<-e9] at h9;exact h9.mono λe w' ⟨h1,t,h3,h4⟩=>⟨h1,t,h3,h4.perm (List.Perm.append_right LR (DR (L:=[rowW x.b.p 71 3 ts.length tc (rowsL Ad (Ma ps ts E.a E.b p q c d)),AP x.a.p (rowsL AZ ps),AX b3 127 (Js (CG ts E)),AX b2 54 (Bd E),AX b1 34 (Cb x),AP x.c.p (rowsL Bb ss)]) (L':=[AX b3 127 (Js (CG ts E)),AX b2 54 (Bd E),AX b1 34 (Cb x),AP x.a.p (rowsL AZ ps),AP x.c.p (rowsL Bb ss),rowW x.b.p 71 3 ts.length tc (rowsL Ad (Ma ps ts E.a E.b p q c d))]) [2,3,4,1,5,0] (show List.Perm [2,3,4,1,5,0] (List.range 6) by decide) O))⟩)) (λd hd=>by cases hd<;>exact (BE O)) λ_ _=>asg' O (oNl' (zB (sL [1,8,9,10,4,5,2] O) (zA (zH (zS ?_))))))))))
   exact zJ (z6 (zS (zJ (ret_one O (rd_tmp (v:=(qa (Dg ps E.a E.b c d))) O) (λw hw=>⟨by rw [(ZN hfin hE h2).1],(),trivial,by rw [(ZN hfin hE h2).2];exact (hw.weak (sl (sl (sl sr)))).perm (List.perm_middle (l₁:=[x.a.row,x.c.row]) (l₂:=LR))⟩)))))
  ·simp only [jK] at hc1
   have hok:EN ps ts E=true:=by have h9:=Rl ps ts E;cases hb:Ci E with|false=>rw [<-h9,hb];rfl|true=>simpa [hb] using hc1
   exact zC (zF (zA (zD (AC (AR (c:=((i+1:Nat):Int)) O O (AS (a:=i) (b:=1) Z)) O (AM O (oNl' (zB (sL [1,8,9,10,4,5] O) (zh (i+1) (⟨Z,he.trans (S1 Z (by rw [<-hE];exact hok))⟩) Z (sF O) (sl (sl sr))))))))))
 ·replace hc0:=xT hc0
  have hfin:=he.trans (Vr hc0)
  exact zU (zO (zX (zR (q1 (yr (A:=[AX b1 34 (Cb x),AP x.a.p (rowsL AZ ps),AP x.c.p (rowsL Bb ss)]) (B:=LR) (p:=x.b.p) (T:=71) (z:=3) (m:=ts.length) (cp:=tc) (cs:=rowsL Ad ts) (sl (sk (sk (sl sr)))) hnb2 (by intro y hy;simp only [xO,List.not_mem_nil,or_false] at hy;rcases hy with rfl|rfl|rfl;exact .inl rfl;exact .inr hda;exact .inr hdc) hdL (zD (asg' O (oNl' (zA (zH (ret_one O (rd_tmp (v:=(qa false)) O) (λw hw=>⟨by rw [(ZO hfin).1],(),trivial,by rw [(ZO hfin).2];exact (hw.weak (sl sr)).perm (List.perm_middle (l₁:=[x.a.row,x.c.row]) (l₂:=LR))⟩))))))))))))
theorem Vu {ps:List Pt} {ts:List T3} {ss:List Z3} (x:MN ps ts ss) (tc:Nat) (hnb:BV ps.length ts=true) (htl:ts.length<=1000000) (hN:ps.length<=1000000) (hz:∀i,Bn (cor ps i)<=200000) (ho1:OwnOk x.b.p ts.length tc) (w:World) {w0:BF} {LR:List As} (he0:w0.ex=none) (ha:∀b,x.a.p.map (·.block)=some b->w0.w.heap.size<=b) (hc:∀b,x.c.p.map (·.block)=some b->w0.w.heap.size<=b) (hW:BI w0 w (rowW x.b.p 71 3 ts.length tc (rowsL Ad ts)::AP x.a.p (rowsL AZ ps)::AP x.c.p (rowsL Bb ss)::LR)):Calls prog 28 #[(aG (Cb x))] w (λe w'=>e=.returned (qa (H9 ps ts))/\∃u:Unit,True/\BI w0 w' (rowW x.b.p 71 3 ts.length tc (rowsL Ad (FU ps ts))::AP x.a.p (rowsL AZ ps)::AP x.c.p (rowsL Bb ss)::LR)):=by
 obtain ⟨h1,h2,h3⟩:=hW.frz2 ho1 (Ac An _) he0
 exact YV x tc hnb htl hN hz ho1 w h2 (h3 _ List.mem_cons_self) (h3 _ (List.mem_cons_of_mem _ List.mem_cons_self)) (λy hy=>.inr (h3 y (List.mem_cons_of_mem _ (List.mem_cons_of_mem _ hy)))) (S:=λ_=>False) (At.mn (At.new ha) (At.new h2) (At.new hc)) (h1.perm (List.Perm.append_right LR (DR (L:=[AP x.b.p (rowsL Ad ts),JS x.b.p 71 3 ts.length tc (rowsL Ad ts),x.a.row,x.c.row]) (L':=[x.a.row,AP x.b.p (rowsL Ad ts),x.c.row,JS x.b.p 71 3 ts.length tc (rowsL Ad ts)]) [2,0,3,1] (show List.Perm [2,0,3,1] (List.range 4) by decide) O)))
end
end Go.Proofs.YtbfdamnfcmefmaaGreatDoor
