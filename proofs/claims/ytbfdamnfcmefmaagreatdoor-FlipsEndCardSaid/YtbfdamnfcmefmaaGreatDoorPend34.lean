import Derived.Lib.ItoaLen
import Derived.Laws.IdiomStrings
import Derived.Laws.Strings
import Derived.Test.YtbfdamnfcmefmaaGreatDoorPend32
import Derived.Test.YtbfdamnfcmefmaaGreatDoorPend33
namespace Go.Proofs.YtbfdamnfcmefmaaGreatDoor
open Go Go.RowKit Go.Proofs.Tryz
open Go.Value renaming slice→qz,bool→qa
set_option linter.unusedVariables false
set_option linter.unusedSimpArgs false
section
def ZO (l:List UInt8):List Value:=l.map λx=>Value.int .u8 (x.toNat:Int)
theorem Km (l:List UInt8):(ZO l).length=l.length:=by simp [ZO]
def SF (w : World) : Prop := Lib.TabIs Tryz.prog w "internal/strconv.uint64pow10" .u64 Lib.pow10Tab
theorem Sb (zq:Nat) (hZ:zq=24) (b u:Nat) (T:TypeId) (w:World) (hb:w.heap[b]?=some (.cells (List.replicate zq (Value.int .u8 0)).toArray T (0,0))) (hu:u<18446744073709551616) :
    Calls prog 245 #[.slice (jk b) (Lib.nDigits u) 24,.int .u64 u] w λe w'=>e=.returned (.tuple #[])/\Jq w w' (some b)/\∃o,w'.heap[b]?=some o/\Hf 0 (ZO (Lib.decDigits u)) o:=by
  have hnd:=Lib.nDigits_le20 u hu
  have hH:Go.Sort.Holds (λ(b:UInt8)=>Value.int .u8 (b.toNat:Int)) w b 0 (Array.replicate (Lib.nDigits u) (0:UInt8)):=λj hj=>by
    have hj':j<Lib.nDigits u:=by simpa using hj
    refine ⟨?_,by simp [World.frozen?,hb]⟩
    rw [cell_of_row w b _ _ T (0,0) hb,getElem!_pos _ j hj]
    simp [show j<zq by omega]
  have h:=Tryz.internal_strconv_formatBase10 b 0 24 u (Array.replicate (Lib.nDigits u) 0) w hH (by rw [Array.size_replicate];exact Lib.lt_pow_nDigits u) hu (by rw [Array.size_replicate];omega)
  rw [Array.size_replicate] at h
  refine h.mono ?_
  rintro e w' ⟨rfl,n,v',dk,rfl,hF⟩
  refine ⟨rfl,⟨⟨rfl,rfl,rfl,by simp [Go.Sort.putRow,Go.Sort.mapBlock],λk hk hne=>?_⟩,(by show w.drawn<=w.drawn+n;omega)⟩,_,(by simp only [World.heap_drewN,Go.Sort.putRow,Go.Sort.mapBlock,Array.getElem?_modify,hb,if_true,Option.map_some,Go.Sort.onCells]:_=some (.cells (Go.Sort.putCells (λ(b:UInt8)=>Value.int .u8 (b.toNat:Int)) 0 dk (List.replicate zq (Value.int .u8 0)).toArray) T (0,0))),_,T,(0,0),rfl,?_⟩
  · have:b≠k:=λe=>hne (by rw [e])
    simp [Go.Sort.putRow,Go.Sort.mapBlock,Array.getElem?_modify,this]
  · have hsz:dk.size=Lib.nDigits u:=hF.size
    rw [Km,Lib.decDigits_length]
    apply List.ext_getElem?
    intro j
    by_cases hj:j<Lib.nDigits u
    · have hjd:j<(Lib.decDigits u).length:=by rw [Lib.decDigits_length];exact hj
      rw [List.drop_zero,List.getElem?_take_of_lt hj,Array.getElem?_toList]
      have e1:=Lib.row_is_numeral hF j hjd
      simp only [ZO,List.getElem?_map,xP hjd,e1,Option.map_some]
      simp [Go.Sort.putCells,hj,hsz,show j<zq by omega]
    · rw [List.getElem?_take_eq_none Z,List.getElem?_eq_none (by rw [Km,Lib.decDigits_length];omega)]
theorem VD (b u:Nat) (T:TypeId) (w:World) (hb:w.heap[b]?=some (.cells (List.replicate 24 (Value.int .u8 0)).toArray T (0,0))) (hu:u<18446744073709551616) :
    Calls prog 245 #[.slice (jk b) (Lib.nDigits u) 24,.int .u64 u] w λe w'=>e=.returned (.tuple #[])/\Jq w w' (some b)/\∃o,w'.heap[b]?=some o/\Hf 0 (ZO (Lib.decDigits u)) o:=Sb 24 rfl b u T w hb hu
theorem SF.below {w w':World} (h:SF w) (hb:Hm w.heap.size w w'):SF w':=by
  unfold SF Lib.TabIs World.var? at *
  cases hg : Tryz.prog.globalNamed "internal/strconv.uint64pow10" with
  | none=>simp [hg] at h
  | some g =>
    simp only [hg,Option.bind_some] at h ⊢
    have hlt:g<w.heap.size:=by
      rcases Nat.lt_or_ge g w.heap.size with h'|h'
      · exact h'
      · rw [Array.getElem?_eq_none h'] at h;simp at h
    rw [hb.block g hlt]
    exact h
theorem Yg (u:Nat) (h1:1<=u) (h2:u<18446744073709551616) (w:World) (hT:SF w):Calls prog 244 #[vK .u64 u] w (Ac w (vN (Lib.nDigits u))) :=
  (Tryz.internal_strconv_numDigits u h1 h2 w hT).mono λe w' h=>⟨h.1,h.2▸Hm.refl _ _⟩
theorem TI (i:Nat) (h:i<100) (w:World):Calls prog 243 #[vN i] w (Ac w (.string (txB (Lib.decDigits i)))) :=
  (Tryz.internal_strconv_small i h w).mono λe w' h=>⟨h.1,h.2▸Hm.refl _ _⟩
section
variable {ops:Array Oper} {rest:List Oper} {Q:Exit->Act->World->Prop} {n:Nat} {F:List (Nat×Value)} {w0:BD} {L:List As} {t:TypeId} {p:String} {af:Array Edge} {d:Option Tmp} {g:Option (Nat×Bool)} {x:Operand}
theorem AR.callRow {P:Program} {o:Oper} {f:FuncId} {args:Array Value} {v:Value} (i:Nat) {b:Nat} {T:TypeId} {cs cs':List Value} (hw:Wt ops n F o)
    (he:∀a w,Cx n a F->BH w0 w L->(execOp a.eval o).run P w=.ok (.enter f args) w) (hi:L[i]?=some (AY b T cs))
    (hc:∀w,BH w0 w L->Calls P f args w λe w'=>e=.returned v/\Jq w w' (some b)/\∃o,w'.heap[b]?=some o/\Hf 0 cs' o)
    (hd:∀d,o.dst=some d->d<n) (next:AR P ops rest Q n (match o.dst with|some d=>(d,v)::F|none=>F) w0 (L.set i (AN (jk b) cs'))):AR P ops (o::rest) Q n F w0 L:=λa w ha hW=>by
  unfold wpList
  rw [if_pos (hw a ha)]
  left
  unfold Oper.wp
  rw [he a w ha hW,Oper.upon_enter]
  refine (hc w hW).mono ?_
  rintro e w' ⟨rfl,hg,o',hcell,hl⟩
  have hW':=hW.turn hi rfl rfl hg ⟨o',hcell,hl⟩ (y:=AN (jk b) cs')
  cases hdd:o.dst with
  | none=>rw [hdd] at next;exact next _ _ ha.put_none hW'
  | some d=>rw [hdd] at next;exact next _ _ (ha.put (hd d hdd)) hW'
theorem Fc {P:Program} {tx e:TypeId} {b len k m:Nat} {ki:IntKind} {hi:Operand} (hx:evF F x=some (.pointer (jk b))) (hh:evF F hi=some (.int ki (m:Nat))) (hu:P.underlying tx=some (.array len e)) (hs:∀w,(sizeOf e).run P w=.ok k w) (hm:m<=len) (h0:0<len) :
    Ex P n F w0 L ⟨d,.slice tx x none (some hi) none,t,p,af,g⟩ (.slice (jk b) m len):=λA w ha _=>by
  have e1:¬len=0:=by omega
  simp [execOp,ha.ev hx,ha.ev hh,Instr.sliceAt,run_underlying hu,Instr.sureAddr,Instr.sliceBounds,Instr.sliceBound,asIntOf,hs,e1,hm,Addr.add_lit]
theorem MM {P:Program} {src dst e:TypeId} {b k:Nat} {cap m:Nat} {l:List UInt8} (hx:evF F x=some (.slice (jk b) m cap)) (hm:m=l.length) (hi:L[k]?=some (AN (jk b) (ZO l))) (hs:P.underlying src=some (.slice e)) (he:P.underlying e=some (.int .u8)) (hd:P.underlying dst=some .string) :
    Ex P n F w0 L ⟨d,.convert src dst x,t,p,af,g⟩ (.string (txB l)):=λA w hf hW=>by
  subst hm
  have h:=run_convert_bytes_back (P:=P) w src dst e ⟨b,0,none⟩ cap l hs he hd (λj hj=>by
    obtain ⟨o,ho,hp⟩:=hW.holds hi b rfl
    rw [Addr.add_lit]
    exact Hf.cell hp ho (by simp [ZO,hj]))
  simp only [execOp,hf.ev hx,Sem.run_bind,h,Result.andThen_ok,Sem.run_pure]
  rfl
end
end
section
set_option maxRecDepth 100000
theorem O_ (n:Nat) (hn:n<18446744073709551616) (w:World) (hT:SF w):Calls prog 197 #[(vK .u64 n),(vI 10)] w (Ac w (Value.string (txB (Lib.decDigits n)))):=by
 have hnd:=Lib.nDigits_le20 n hn
 refine AW (args:=[(vK .u64 n),(vI 10)]) func197 O O (A_ O) (zM (sL [0,1] O) (q4 (asg' O (oNl' (q1 (q4 (AL O (AD (BM (c:=true) O O jY) O (oNl' (zB (sL [0,1,4,10] O) (zA ?_)))))))))))
 refine zV O (zX (q4 (AL O (AD (Ab (c:=(decide (n<100))) O O (DA (a:=n) (b:=100))) O (oNl' (zB (sL [0,1,4,12] O) (zA ?_)))))))
 refine zK O (λhc1=>?_) (λhc1=>?_)
 ·replace hc1:=xT hc1
  exact q4 (AL O (AD (Aq (c:=((n:Nat):Int)) O underlying60 underlying3 (CP Z)) O (ck' call243 (TI n Z) O (asg' O (oNl' (zB (sL [0,1,4] O) (zA (zG (zJ (zJ (ret_one O (rd_tmp (v:=(Value.string (txB (Lib.decDigits n)))) O) (λw hw=>⟨rfl,hw.out⟩))))))))))))
 ·replace hc1:=xS hc1
  refine zC (q2 (al cq O λb1=>oNl' (q2 (AL O (C3 call244 (λw hw=>Yg n Z Z w (hT.below hw.out)) O (asg' O (q3 (sL [0,1,4,5,6] O) (AL O (AD (v:=(qz (jk b1) (Lib.nDigits n) 24)) (Fc (len:=24) (m:=Lib.nDigits n) O O underlying308 sizeOf5 Z jY) O (AL O ?_))))))))))
  exact AR.callRow 0 (cs':=ZO (Lib.decDigits n)) (v:=(Value.tuple #[])) (AI O) (Am (args:=[(qz (jk b1) (Lib.nDigits n) 24),(vK .u64 n)]) O O call245) O (λw hw=>VD _ _ 308 w (hw.get (i:=0) O) hn) (λd hd=>by cases hd<;>exact (A_ O)) (q3 (sL [0,1,4,5,6] O) (AL O (AD (v:=(qz (jk b1) (Lib.nDigits n) 24)) (Fc (len:=24) (m:=Lib.nDigits n) O O underlying308 sizeOf5 Z jY) O (AD (v:=(Value.string (txB (Lib.decDigits n)))) (MM (k:=0) O (Lib.decDigits_length n).symm O underlying22 underlying5 underlying9) O (asg' O (oNl' (zB (sL [0,1,4,5,6] O) (zA (zG (zJ (ret_one O (rd_tmp (v:=(Value.string (txB (Lib.decDigits n)))) O) (λw hw=>⟨rfl,hw.out⟩))))))))))))
theorem QI (n:Nat) (hn:n<18446744073709551616) (w:World) (hT:SF w):Calls prog 151 #[(vK .u64 n),(vI 10)] w (Ac w (Value.string (txB (Lib.decDigits n)))):=by
 refine AW (args:=[(vK .u64 n),(vI 10)]) func151 O O (A_ O) (zM (sL [0,1] O) (q4 (asg' O (oNl' (q2 (AL O (AL O (C3 call197 (λw hw=>O_ n Z w (hT.below hw.out)) O (asg' O (oNl' (zB (sL [4] O) ?_)))))))))))
 exact zA (zG (ret_one O (rd_tmp (v:=(Value.string (txB (Lib.decDigits n)))) O) (λw hw=>⟨rfl,hw.out⟩)))
end

section
set_option maxRecDepth 100000
theorem Nh {n:Nat} (h:n<18446744073709551616):(Lib.decDigits n).length<=20:=by rw [Lib.decDigits_length];exact Lib.nDigits_le20 n h
theorem ZD {z:Int} (h:z.natAbs<18446744073709551616):(txI z).length<=21:=by
 have:=Nh h
 unfold txI;split<;>simp<;>omega
theorem I7 (n:Nat) (hn:n<18446744073709551616) (w:World) (hT:SF w):Calls prog 96 #[(aG (AT n))] w (Ac w (Value.string (txB (Lib.decDigits n)))):=by
 refine AW (args:=[(aG (AT n))]) func96 O O (A_ O) (zM (sL [0] O) (q4 (BV (cs:=AT n) O λb1=>asg' O (q6 (sL [1,2] O) (q4 (AD (v:=(pP b1 1)) (AA O underlying62 O sizeOf9 O) O (BG 0 (Value.string (Bm n)) Tj O (AD (Bh (c:=(decide (n<18446744073709551616))) O O Cg) O (oNl' (zB (sL [1,2,10] O) ?_))))))))))
 refine zA ?_
 refine zK O (λhc0=>?_) (λhc0=>?_)
 ·replace hc0:=xT hc0
  exact q4 (AD (v:=(pP b1 0)) (AA O underlying62 O sizeOf60 O) O (BG 0 (vK .u64 (B6 n)) G5 O (zL (k:=12) (u:=(vK .u64 n)) O (by rw [Bf Z]) (C3 call151 (λw hw=>QI n Z w (hT.below hw.out)) O (asg' O (oNl' (zB (sL [1,2] O) (zA (zG (zJ (ret_one O (rd_tmp (v:=(Value.string (txB (Lib.decDigits n)))) O) (λw hw=>⟨rfl,hw.out⟩))))))))))))
 ·replace hc0:=xS hc0
  exfalso;omega
theorem M5 (z:Int) (hz:z.natAbs<18446744073709551616) (w:World) (hT:SF w):Calls prog 95 #[(aG (A6 z))] w (Ac w (Value.string (txB (txI z)))):=by
 have hl:=Nh hz
 refine AW (args:=[(aG (A6 z))]) func95 O O (A_ O) (zM (sL [0] O) (q4 (BV (cs:=A6 z) O λb1=>asg' O (q6 (sL [1,2] O) (q4 (AD (v:=(pP b1 2)) (AA O underlying66 O sizeOf4 O) O (BG 0 (qa (decide (z<0))) Wn O (oNl' (zB (sL [1,2,4] O) (zA ?_))))))))))
 refine zK O (λhc0=>?_) (λhc0=>?_)
 ·replace hc0:=xT hc0
  have he:txI z=45::Lib.decDigits z.natAbs:=by unfold txI;rw [if_pos hc0]
  exact q4 (AD (v:=(pP b1 0)) (AA O underlying66 O sizeOf64 O) O (AD (v:=(pP b1 0)) (AA O underlying64 O sizeOf62 O) O (Dp 0 (AT z.natAbs) B8 O (C3 call96 (λw hw=>I7 z.natAbs Z w (hT.below hw.out)) O (AD (v:=(Value.string (txB (45::Lib.decDigits z.natAbs)))) (Fo (r:=(txB (45::Lib.decDigits z.natAbs))) O O (by rw [Iq];show 1+_<=_;omega) (IC [45] _)) O (asg' O (oNl' (zB (sL [1,2] O) (zA (zG (zJ (ret_one O (rd_tmp (v:=(Value.string (txB (45::Lib.decDigits z.natAbs)))) O) (λw hw=>⟨by rw [he],hw.out⟩)))))))))))))
 ·replace hc0:=xS hc0
  have he:txI z=Lib.decDigits z.natAbs:=by unfold txI;rw [if_neg hc0]
  exact zC (q2 (AD (v:=(pP b1 0)) (AA O underlying66 O sizeOf64 O) O (AD (v:=(pP b1 0)) (AA O underlying64 O sizeOf62 O) O (Dp 0 (AT z.natAbs) B8 O (C3 call96 (λw hw=>I7 z.natAbs Z w (hT.below hw.out)) O (asg' O (oNl' (zB (sL [1,2] O) (zA (zG (ret_one O (rd_tmp (v:=(Value.string (txB (Lib.decDigits z.natAbs)))) O) (λw hw=>⟨by rw [he],hw.out⟩))))))))))))
theorem M0 (q:Rat) (hn:q.num.natAbs<18446744073709551616) (hd:q.den<18446744073709551616) (w:World) (hT:SF w):Calls prog 38 #[(aG (AF q))] w (Ac w (Value.string (txB (bF q)))):=by
 have hl1:=ZD hn
 have hl2:=Nh hd
 have hdn:nw q.den<=1099511627776:=xM (Cs.2 (show q.den<4294967296^2 from hd)) jY
 refine AW (args:=[(aG (AF q))]) func38 O O (A_ O) (zM (sL [0] O) (q4 (BV (cs:=AF q) O λb1=>asg' O (q6 (sL [1,2] O) (q4 (Ak 0 Be O (ck' call94 (Gi q) O (oNl' (zB (sL [1,2,4] O) (zA ?_))))))))))
 refine zK O (λhc0=>?_) (λhc0=>?_)
 ·replace hc0:=xT hc0
  have he:bF q=txI q.num:=by unfold bF;rw [if_pos hc0]
  exact q4 (AD (v:=(pP b1 0)) (AA O underlying68 O sizeOf66 O) O (Dp 0 (A6 q.num) DN O (C3 call95 (λw hw=>M5 q.num Z w (hT.below hw.out)) O (asg' O (oNl' (zB (sL [1,2] O) (zA (zG (zJ (ret_one O (rd_tmp (v:=(Value.string (txB (txI q.num)))) O) (λw hw=>⟨by rw [he],hw.out⟩)))))))))))
 ·replace hc0:=xS hc0
  have he:bF q=txI q.num++[47]++Lib.decDigits q.den:=by unfold bF;rw [if_neg hc0,List.append_assoc];rfl
  refine zC (q1 (C8 [(0,true),(1,true),(4,true),(2,false),(3,true),(5,false),(6,false),(7,true),(8,true)] sr (Al (v:=(pP b1 0)) O (AA O underlying68 O sizeOf66 O) (IK 0 (A6 q.num) DN O (Ej 0 Be O (zN O (C3 call95 (λw hw=>M5 q.num Z w (hT.below hw.out)) O (zD sr (Al (v:=(Value.string (txB (txI q.num++[47])))) O (Fo (r:=(txB (txI q.num++[47]))) O O (by rw [Iq];show _+1<=_;omega) (IC _ [47])) (zN O (ck' call97 (den_ok q Z) O ?_)))))))))))
  exact zD sr (zN O (C3 call96 (λw hw=>I7 q.den Z w (hT.below hw.out)) O (zD sr (Al (v:=(Value.string (txB (txI q.num++[47]++Lib.decDigits q.den)))) O (Fo (r:=(txB (txI q.num++[47]++Lib.decDigits q.den))) O O (by rw [Iq,Iq,xL,List.length_singleton];omega) (IC _ _)) (pS' O (zQ (zB (sL [1,2] O) (zA (zG (ret_one O (rd_tmp (v:=(Value.string (txB (txI q.num++[47]++Lib.decDigits q.den)))) O) (λw hw=>⟨by rw [he],hw.out⟩)))))))))))
end
section
set_option maxRecDepth 100000
end
section
set_option maxRecDepth 100000
end
section
section
variable {ts:List T3} {a b N:Nat}
end
end
section
set_option maxRecDepth 100000
end
section
set_option maxRecDepth 100000
end
section
set_option maxRecDepth 100000
theorem Gh {ps:List Pt} {ts:List T3} {ss:List Z3} (x:MN ps ts ss) (hp:ps.length<=1000000000) (ht:ts.length<=1000000000) (hs:ss.length<=1000000000) (w:World) {S:Nat->Prop} (hx:Ro S w x):Calls prog 27 #[(aG (CG x))] w (E9 (λa:XN ps ts ss=>aG (Zw a)) Zx S w):=by
 obtain ⟨y,hy,hro⟩:=Rp x
 have k:=Tp y hp (by rw [xK];exact ht) hs w (hro hx)
 rw [hy] at k
 exact k.mono λe w' h=>h.toCpN
end
section
set_option maxRecDepth 100000
set_option maxHeartbeats 1000000 in
theorem Yh {ps:List Pt} {ts:List T3} {ss:List Z3} (x:MN ps ts ss) (tc:Nat) (hnb:Ba ps.length ts=true) (htl:ts.length<=1000000) (hN:ps.length<=1000000) (hz:∀i,Bl (cor ps i)<=200000) (ho1:OwnOk x.b.p ts.length tc) (w:World) {w0:BD} {LR:List As} {S:Nat->Prop} (hnb2:∀b,x.b.p.map (·.block)=some b->w0.w.heap.size<=b) (hda:∀b,x.b.p.map (·.block)=some b->x.a.row.foot≠some b) (hdc:∀b,x.b.p.map (·.block)=some b->x.c.row.foot≠some b) (hdL:∀y∈LR,y.ro=false\/∀b,x.b.p.map (·.block)=some b->y.foot≠some b) (lx:At w0 S x) (hW:BH w0 w (AN x.a.p (rowsL Aa ps)::AN x.b.p (rowsL Af ts)::AN x.c.p (rowsL BU ss)::JJ x.b.p 71 3 ts.length tc (rowsL Af ts)::LR)):Calls prog 28 #[(aG (CG x))] w (λe w'=>e=.returned (qa (nexV ps ts))/\∃u:Unit,True/\BH w0 w' (rowW x.b.p 71 3 ts.length tc (rowsL Af (Cj ps ts))::AN x.a.p (rowsL Aa ps)::AN x.c.p (rowsL BU ss)::LR)):=by
 refine Mm (args:=[(aG (CG x))]) func28 O O (A_ O) hW (zM (sL [0] O) (q4 (BV (cs:=CG x) O λb1=>asg' O (q6 (sL [1,2] O) (q4 (Ak 0 BY O (cX (S:=S) (cs:=rowsL Bn (BK ts)) (k:=(BK ts).length) (args:=[(aG (CG x))]) call17 (λw hw=>(by obtain ⟨y2,hy2,hro⟩:=ZT x;have h9:=Hn y2 Z Z hnb w (hro (CL hw 1 O lx));rw [hy2] at h9;exact h9)) O O O λo lo=>?_)))))))
 have hel:=QA ts
 refine AD (v:=(vN ((BK ts).length))) (AE O underlying51) O (AL O (oNl' (zB (sL [1,2,8,9,10] O) (zA (zI ?_)))))
 refine zy (tg λ(i:Nat)=>i<=(BK ts).length/\Mb ps ts=nexI ps ts ((BK ts).drop i) i) (tg λ(i:Nat)=>[(1,(pP b1 0)),(8,(qz o.p ((BK ts).length) o.c)),(9,(vN ((BK ts).length))),(10,(vN i))]) (tg λ(i:Nat)=>(AN o.p (rowsL Bn (BK ts))::AY b1 34 (CG x)::AN x.a.p (rowsL Aa ps)::AN x.b.p (rowsL Af ts)::AN x.c.p (rowsL BU ss)::JJ x.b.p 71 3 ts.length tc (rowsL Af ts)::LR)) (tg λ(i:Nat)=>(BK ts).length-i) 0 (⟨xJ _,rfl⟩) (sF O) sr (λi hJ=>?_)
 obtain ⟨hi,he⟩:=hJ
 refine q4 (AD (Ab (c:=(decide (i<((BK ts).length)))) O O (DA (a:=i) (b:=(BK ts).length))) O (oNl' (q1 ?_)))
 refine zK O (λhc0=>?_) (λhc0=>?_)
 ·replace hc0:=xT hc0
  obtain ⟨E,hE⟩:∃q,q=((BK ts).getD i jA):=⟨_,rfl⟩
  have hEm:E∈BK ts:=by rw [hE,List.getD,xP hc0];exact List.getElem_mem hc0
  refine zC (q1 (zI (q4 (AD (v:=(pP (pB o.p) (pO o.p+i*4))) (AO (j:=i) O O o.ok underlying51 sizeOf54 O Z) O (AD (v:=(aG (Bn ((BK ts).getD i jA)))) (AM (vs:=Bn ((BK ts).getD i jA)) (i:=0) O O (A8.ne o.ok Z) IB (Ae C9 _ _ _ Z) (C9 _)) O (zL (k:=13) (u:=(aG (Bn E))) O (by rw [hE]) (al JN O λb2=>Ah O sizeOf54 O (q3 (sL [1,8,9,10,4] O) (Ak 2 BY O (Ak 0 IB O ?_))))))))))
  refine C3 call49 (λw hw=>Li x E hEm hnb hN w (CL hw 3 O lx)) O (AL O (AD (AJ (v:=(aG (Jk (B9 ts E)))) O O) O (AD (AJ (v:=(qa (CZ E))) O O) O (al Lv O λb3=>Ah O sizeOf127 O (asg' O (q3 (sL [1,8,9,10,4,5,6] O) (AL O (AL O ?_))))))))
  refine zi (FM:=[(1,(pP b1 0)),(8,(qz o.p ((BK ts).length) o.c)),(9,(vN ((BK ts).length))),(10,(vN i)),(4,(pP b2 0)),(5,(pP b3 0)),(6,(qa (CZ E))),(20,(qa (CZ E))),(21,(qa (CZ E))),(26,(qa ((CZ E)&&(!(Dx ps ts E)))))]) (LM:=(AY b3 127 (Jk (B9 ts E))::AY b2 54 (Bn E)::AN o.p (rowsL Bn (BK ts))::AY b1 34 (CG x)::AN x.a.p (rowsL Aa ps)::AN x.b.p (rowsL Af ts)::AN x.c.p (rowsL BU ss)::JJ x.b.p 71 3 ts.length tc (rowsL Af ts)::LR)) 5 ?_ ?_
  ·rcases xQ (CZ E) with hg1|hg1
   ·refine zL (k:=21) (u:=qa true) O (by rw [hg1]) ?_
    have hg1':=hg1
    skip
    exact BI (v:=(aG (Jk (B9 ts E)))) O (Ad (i:=0) (vs:=Jk (B9 ts E)) O O G4.a G4.s O O) (BI (v:=(aG (CG x))) O (Ad (i:=3) (vs:=CG x) O O BY.a BY.s O O) (zg (v:=(qa (Dx ps ts E))) (AU O) (Am (args:=[(aG (Jk (B9 ts E))),(aG (CG x))]) O O call50) (λw hw=>PC x E hEm (by simpa using hg1') hnb hN hz w (CL hw 4 O lx)) O (A_ O) (BI (v:=(qa (!(Dx ps ts E)))) O (BE (c:=(!(Dx ps ts E))) O O) (AD (v:=(qa (!(Dx ps ts E)))) (AX O O) O (oNl' (zT Cd (xR _)))))))
   ·refine zL (k:=21) (u:=qa false) O (by rw [hg1]) ?_
    have hg1':=hg1
    skip
    exact BT O (BT O (BT O (BT O (AD (v:=(qa false)) (AP O O) O (oNl' (zT Cd (xR _)))))))
  refine oNl' (zB (sL [1,8,9,10,4,5,26] O) (zA ?_))
  refine zK O (λhc1=>?_) (λhc1=>?_)
  ·simp only [jK] at hc1
   obtain ⟨hb1,hl1⟩:CZ E=true/\Dx ps ts E=false:=by simpa using hc1
   have hfin:=he.trans (Vx hc0 (by rw [<-hE];exact hl1))
   obtain ⟨g1,g2⟩:=Ez.1 hb1
   obtain ⟨p,q,c,d,h2⟩:=JP hnb Z hEm g1 g2
   have e9:Jk (B9 ts E)=[vN E.a,vN E.b,vN p,vN q,vN c,vN d]:=by rw [(Cu h2).1];show [vN E.a,vN E.b,.int .i64 E.l,.int .i64 E.r,vN c,vN d]=_;rw [h2.l,h2.r]
   refine zX (yu (A:=[AY b3 127 (Jk (B9 ts E)),AY b2 54 (Bn E),AY b1 34 (CG x),AN x.a.p (rowsL Aa ps),AN x.c.p (rowsL BU ss)]) (B:=LR) (p:=x.b.p) (T:=71) (z:=3) (m:=ts.length) (cp:=tc) (cs:=rowsL Af ts) (sk (sk (sl (sk (sk (sl sr)))))) hnb2 (by intro y hy;simp only [xN,List.not_mem_nil,or_false] at hy;rcases hy with rfl|rfl|rfl|rfl|rfl;exact .inl rfl;exact .inl rfl;exact .inl rfl;exact .inr hda;exact .inr hdc) hdL (zH (Ak 0 G4 O (Ak 2 BY O (yS (L2:=(rowW x.b.p 71 3 ts.length tc (rowsL Af ts)::AN x.a.p (rowsL Aa ps)::AY b3 127 (Jk (B9 ts E))::AY b2 54 (Bn E)::AY b1 34 (CG x)::AN x.c.p (rowsL BU ss)::LR)) (v:=qa (Db ps E.a E.b c d)) (α:=Unit) (K:=λ_=>True) (LO:=λ_=>(AY b3 127 (Jk (B9 ts E))::AY b2 54 (Bn E)::AY b1 34 (CG x)::AN x.a.p (rowsL Aa ps)::AN x.c.p (rowsL BU ss)::rowW x.b.p 71 3 ts.length tc (rowsL Af (MY ps ts E.a E.b p q c d))::LR)) (AI O) (Dn (args:=[(aG (Jk (B9 ts E))),(aG (CG x))]) (caps:=[]) (all:=[(aG (Jk (B9 ts E))),(aG (CG x))]) O O O call51) (List.Perm.append_right LR (Cv (L:=[AY b3 127 (Jk (B9 ts E)),AY b2 54 (Bn E),AY b1 34 (CG x),AN x.a.p (rowsL Aa ps),AN x.c.p (rowsL BU ss),rowW x.b.p 71 3 ts.length tc (rowsL Af ts)]) (L':=[rowW x.b.p 71 3 ts.length tc (rowsL Af ts),AN x.a.p (rowsL Aa ps),AY b3 127 (Jk (B9 ts E)),AY b2 54 (Bn E),AY b1 34 (CG x),AN x.c.p (rowsL BU ss)]) [5,3,0,1,2,4] (show List.Perm [5,3,0,1,2,4] (List.range 6) by decide) O)) (λw hw=>(by have h9:=Ns ps ts E.a E.b p q c d h2.sc.a h2.sc.b h2.sc.c h2.sd.c h2.pl h2.ql hN htl hz x.a.p x.b.p x.c.p x.a.c tc x.b.c ss.length x.c.c ho1 x.b.ok x.a.ok w hw;rw [<-e9] at h9;exact h9.mono λe w' ⟨h1,t,h3,h4⟩=>⟨h1,t,h3,h4.perm (List.Perm.append_right LR (Cv (L:=[rowW x.b.p 71 3 ts.length tc (rowsL Af (MY ps ts E.a E.b p q c d)),AN x.a.p (rowsL Aa ps),AY b3 127 (Jk (B9 ts E)),AY b2 54 (Bn E),AY b1 34 (CG x),AN x.c.p (rowsL BU ss)]) (L':=[AY b3 127 (Jk (B9 ts E)),AY b2 54 (Bn E),AY b1 34 (CG x),AN x.a.p (rowsL Aa ps),AN x.c.p (rowsL BU ss),rowW x.b.p 71 3 ts.length tc (rowsL Af (MY ps ts E.a E.b p q c d))]) [2,3,4,1,5,0] (show List.Perm [2,3,4,1,5,0] (List.range 6) by decide) O))⟩)) (λd hd=>by cases hd<;>exact (A_ O)) λ_ _=>asg' O (oNl' (zB (sL [1,8,9,10,4,5,2] O) (zA (zG (zR ?_))))))))))
   exact zJ (z7 (zR (zJ (ret_one O (rd_tmp (v:=(qa (Db ps E.a E.b c d))) O) (λw hw=>⟨by rw [(Rv hfin hE h2).1],(),trivial,by rw [(Rv hfin hE h2).2];exact (hw.weak (sl (sl (sl sr)))).perm (List.perm_middle (l₁:=[x.a.row,x.c.row]) (l₂:=LR))⟩)))))
  ·simp only [jK] at hc1
   have hok:Dx ps ts E=true:=by have h9:=Rj ps ts E;cases hb:CZ E with|false=>rw [<-h9,hb];rfl|true=>simpa [hb] using hc1
   exact zC (zF (zA (zH (AD (AS (c:=((i+1:Nat):Int)) O O (AV (a:=i) (b:=1) Z)) O (AL O (oNl' (zB (sL [1,8,9,10,4,5] O) (zm (i+1) (⟨Z,he.trans (Sy Z (by rw [<-hE];exact hok))⟩) Z (sF O) (sl (sl sr))))))))))
 ·replace hc0:=xS hc0
  have hfin:=he.trans (Vw hc0)
  exact zU (zO (zY (zP (q1 (yu (A:=[AY b1 34 (CG x),AN x.a.p (rowsL Aa ps),AN x.c.p (rowsL BU ss)]) (B:=LR) (p:=x.b.p) (T:=71) (z:=3) (m:=ts.length) (cp:=tc) (cs:=rowsL Af ts) (sl (sk (sk (sl sr)))) hnb2 (by intro y hy;simp only [xN,List.not_mem_nil,or_false] at hy;rcases hy with rfl|rfl|rfl;exact .inl rfl;exact .inr hda;exact .inr hdc) hdL (zH (asg' O (oNl' (zA (zG (ret_one O (rd_tmp (v:=(qa false)) O) (λw hw=>⟨by rw [(V3 hfin).1],(),trivial,by rw [(V3 hfin).2];exact (hw.weak (sl sr)).perm (List.perm_middle (l₁:=[x.a.row,x.c.row]) (l₂:=LR))⟩))))))))))))
theorem Vy {ps:List Pt} {ts:List T3} {ss:List Z3} (x:MN ps ts ss) (tc:Nat) (hnb:Ba ps.length ts=true) (htl:ts.length<=1000000) (hN:ps.length<=1000000) (hz:∀i,Bl (cor ps i)<=200000) (ho1:OwnOk x.b.p ts.length tc) (w:World) {w0:BD} {LR:List As} (he0:w0.ex=none) (ha:∀b,x.a.p.map (·.block)=some b->w0.w.heap.size<=b) (hc:∀b,x.c.p.map (·.block)=some b->w0.w.heap.size<=b) (hW:BH w0 w (rowW x.b.p 71 3 ts.length tc (rowsL Af ts)::AN x.a.p (rowsL Aa ps)::AN x.c.p (rowsL BU ss)::LR)):Calls prog 28 #[(aG (CG x))] w (λe w'=>e=.returned (qa (nexV ps ts))/\∃u:Unit,True/\BH w0 w' (rowW x.b.p 71 3 ts.length tc (rowsL Af (Cj ps ts))::AN x.a.p (rowsL Aa ps)::AN x.c.p (rowsL BU ss)::LR)):=by
 obtain ⟨h1,h2,h3⟩:=hW.frz2 ho1 (AZ Av _) he0
 exact Yh x tc hnb htl hN hz ho1 w h2 (h3 _ List.mem_cons_self) (h3 _ (List.mem_cons_of_mem _ List.mem_cons_self)) (λy hy=>.inr (h3 y (List.mem_cons_of_mem _ (List.mem_cons_of_mem _ hy)))) (S:=λ_=>False) (At.mn (At.new ha) (At.new h2) (At.new hc)) (h1.perm (List.Perm.append_right LR (Cv (L:=[AN x.b.p (rowsL Af ts),JJ x.b.p 71 3 ts.length tc (rowsL Af ts),x.a.row,x.c.row]) (L':=[x.a.row,AN x.b.p (rowsL Af ts),x.c.row,JJ x.b.p 71 3 ts.length tc (rowsL Af ts)]) [2,0,3,1] (show List.Perm [2,0,3,1] (List.range 4) by decide) O)))
end
end Go.Proofs.YtbfdamnfcmefmaaGreatDoor
