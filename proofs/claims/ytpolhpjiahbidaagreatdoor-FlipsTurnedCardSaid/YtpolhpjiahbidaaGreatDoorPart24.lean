import Derived.Lib.ItoaLen
import Derived.Laws.IdiomStrings
import Derived.Laws.Strings
import Derived.Test.YtpolhpjiahbidaaGreatDoorPart22
import Derived.Test.YtpolhpjiahbidaaGreatDoorPart23
namespace Go.Proofs.YtpolhpjiahbidaaGreatDoor
open Go Go.RowKit Go.Proofs.Tryz
open Go.Value renaming slice→qz,bool→qa
set_option linter.unusedVariables false
set_option linter.unusedSimpArgs false
section
def Yz (l:List UInt8):List Value:=l.map λx=>Value.int .u8 (x.toNat:Int)
theorem Kf (l:List UInt8):(Yz l).length=l.length:=by simp [Yz]
def Rm (w : World) : Prop := Lib.TabIs Tryz.prog w "internal/strconv.uint64pow10" .u64 Lib.pow10Tab
theorem R8 (zq:Nat) (hZ:zq=24) (b u:Nat) (T:TypeId) (w:World) (hb:w.heap[b]?=some (.cells (List.replicate zq (Value.int .u8 0)).toArray T (0,0))) (hu:u<18446744073709551616) :
    Calls prog 264 #[.slice (jk b) (Lib.nDigits u) 24,.int .u64 u] w λe w'=>e=.returned (.tuple #[])/\Jm w w' (some b)/\∃o,w'.heap[b]?=some o/\Hd 0 (Yz (Lib.decDigits u)) o:=by
  have hnd:=Lib.nDigits_le20 u hu
  have hH:Go.Sort.Holds (λ(b:UInt8)=>Value.int .u8 (b.toNat:Int)) w b 0 (Array.replicate (Lib.nDigits u) (0:UInt8)):=λj hj=>by
    have hj':j<Lib.nDigits u:=by simpa using hj
    refine ⟨?_,by simp [World.frozen?,hb]⟩
    rw [cell_of_row w b _ _ T (0,0) hb,getElem!_pos _ j hj]
    simp [show j<zq by omega]
  have h:=Tryz.internal_strconv_formatBase10 b 0 24 u (Array.replicate (Lib.nDigits u) 0) w hH (by rw [Array.size_replicate];exact Lib.lt_pow_nDigits u) hu (by rw [Array.size_replicate];omega)
  rw [Array.size_replicate] at h
  refine h.mono ?_
  rintro e w' ⟨rfl,n,v',dk,rfl,hF⟩
  refine ⟨rfl,⟨⟨rfl,rfl,rfl,by simp [Go.Sort.putRow,Go.Sort.mapBlock],λk hk hne=>?_⟩,(by show w.drawn<=w.drawn+n;omega)⟩,_,(by simp only [World.heap_drewN,Go.Sort.putRow,Go.Sort.mapBlock,Array.getElem?_modify,hb,if_true,Option.map_some,Go.Sort.onCells]:_=some (.cells (Go.Sort.putCells (λ(b:UInt8)=>Value.int .u8 (b.toNat:Int)) 0 dk (List.replicate zq (Value.int .u8 0)).toArray) T (0,0))),_,T,(0,0),rfl,?_⟩
  · have:b≠k:=λe=>hne (by rw [e])
    simp [Go.Sort.putRow,Go.Sort.mapBlock,Array.getElem?_modify,this]
  · have hsz:dk.size=Lib.nDigits u:=hF.size
    rw [Kf,Lib.decDigits_length]
    apply List.ext_getElem?
    intro j
    by_cases hj:j<Lib.nDigits u
    · have hjd:j<(Lib.decDigits u).length:=by rw [Lib.decDigits_length];exact hj
      rw [List.drop_zero,List.getElem?_take_of_lt hj,Array.getElem?_toList]
      have e1:=Lib.row_is_numeral hF j hjd
      simp only [Yz,List.getElem?_map,xP hjd,e1,Option.map_some]
      simp [Go.Sort.putCells,hj,hsz,show j<zq by omega]
    · rw [List.getElem?_take_eq_none Z,List.getElem?_eq_none (by rw [Kf,Lib.decDigits_length];omega)]
theorem Ue (b u:Nat) (T:TypeId) (w:World) (hb:w.heap[b]?=some (.cells (List.replicate 24 (Value.int .u8 0)).toArray T (0,0))) (hu:u<18446744073709551616) :
    Calls prog 264 #[.slice (jk b) (Lib.nDigits u) 24,.int .u64 u] w λe w'=>e=.returned (.tuple #[])/\Jm w w' (some b)/\∃o,w'.heap[b]?=some o/\Hd 0 (Yz (Lib.decDigits u)) o:=R8 24 rfl b u T w hb hu
theorem Rm.below {w w':World} (h:Rm w) (hb:Fr w.heap.size w w'):Rm w':=by
  unfold Rm Lib.TabIs World.var? at *
  cases hg : Tryz.prog.globalNamed "internal/strconv.uint64pow10" with
  | none=>simp [hg] at h
  | some g =>
    simp only [hg,Option.bind_some] at h ⊢
    have hlt:g<w.heap.size:=by
      rcases Nat.lt_or_ge g w.heap.size with h'|h'
      · exact h'
      · rw [Array.getElem?_eq_none h'] at h;simp at h
    rw [hb.block g hlt]
    exact h
theorem X7 (u:Nat) (h1:1<=u) (h2:u<18446744073709551616) (w:World) (hT:Rm w):Calls prog 263 #[vK .u64 u] w (Ad w (vN (Lib.nDigits u))) :=
  (Tryz.internal_strconv_numDigits u h1 h2 w hT).mono λe w' h=>⟨h.1,h.2▸Fr.refl _ _⟩
theorem Ss (i:Nat) (h:i<100) (w:World):Calls prog 262 #[vN i] w (Ad w (.string (txB (Lib.decDigits i)))) :=
  (Tryz.internal_strconv_small i h w).mono λe w' h=>⟨h.1,h.2▸Fr.refl _ _⟩
section
variable {ops:Array Oper} {rest:List Oper} {Q:Exit->Act->World->Prop} {n:Nat} {F:List (Nat×Value)} {w0:BC} {L:List As} {t:TypeId} {p:String} {af:Array Edge} {d:Option Tmp} {g:Option (Nat×Bool)} {x:Operand}
theorem AR.callRow {P:Program} {o:Oper} {f:FuncId} {args:Array Value} {v:Value} (i:Nat) {b:Nat} {T:TypeId} {cs cs':List Value} (hw:Wt ops n F o)
    (he:∀a w,Ce n a F->BD w0 w L->(execOp a.eval o).run P w=.ok (.enter f args) w) (hi:L[i]?=some (AX b T cs))
    (hc:∀w,BD w0 w L->Calls P f args w λe w'=>e=.returned v/\Jm w w' (some b)/\∃o,w'.heap[b]?=some o/\Hd 0 cs' o)
    (hd:∀d,o.dst=some d->d<n) (next:AR P ops rest Q n (match o.dst with|some d=>(d,v)::F|none=>F) w0 (L.set i (AF (jk b) cs'))):AR P ops (o::rest) Q n F w0 L:=λa w ha hW=>by
  unfold wpList
  rw [if_pos (hw a ha)]
  left
  unfold Oper.wp
  rw [he a w ha hW,Oper.upon_enter]
  refine (hc w hW).mono ?_
  rintro e w' ⟨rfl,hg,o',hcell,hl⟩
  have hW':=hW.turn hi rfl rfl hg ⟨o',hcell,hl⟩ (y:=AF (jk b) cs')
  cases hdd:o.dst with
  | none=>rw [hdd] at next;exact next _ _ ha.put_none hW'
  | some d=>rw [hdd] at next;exact next _ _ (ha.put (hd d hdd)) hW'
theorem FZ {P:Program} {tx e:TypeId} {b len k m:Nat} {ki:IntKind} {hi:Operand} (hx:evF F x=some (.pointer (jk b))) (hh:evF F hi=some (.int ki (m:Nat))) (hu:P.underlying tx=some (.array len e)) (hs:∀w,(sizeOf e).run P w=.ok k w) (hm:m<=len) (h0:0<len) :
    Ex P n F w0 L ⟨d,.slice tx x none (some hi) none,t,p,af,g⟩ (.slice (jk b) m len):=λA w ha _=>by
  have e1:¬len=0:=by omega
  simp [execOp,ha.ev hx,ha.ev hh,Instr.sliceAt,run_underlying hu,Instr.sureAddr,Instr.sliceBounds,Instr.sliceBound,asIntOf,hs,e1,hm,Addr.add_lit]
theorem L3 {P:Program} {src dst e:TypeId} {b k:Nat} {cap m:Nat} {l:List UInt8} (hx:evF F x=some (.slice (jk b) m cap)) (hm:m=l.length) (hi:L[k]?=some (AF (jk b) (Yz l))) (hs:P.underlying src=some (.slice e)) (he:P.underlying e=some (.int .u8)) (hd:P.underlying dst=some .string) :
    Ex P n F w0 L ⟨d,.convert src dst x,t,p,af,g⟩ (.string (txB l)):=λA w hf hW=>by
  subst hm
  have h:=run_convert_bytes_back (P:=P) w src dst e ⟨b,0,none⟩ cap l hs he hd (λj hj=>by
    obtain ⟨o,ho,hp⟩:=hW.holds hi b rfl
    rw [Addr.add_lit]
    exact Hd.cell hp ho (by simp [Yz,hj]))
  simp only [execOp,hf.ev hx,Sem.run_bind,h,Result.andThen_ok,Sem.run_pure]
  rfl
end
end
section
set_option maxRecDepth 100000
theorem Oh (n:Nat) (hn:n<18446744073709551616) (w:World) (hT:Rm w):Calls prog 230 #[(vK .u64 n),(vI 10)] w (Ad w (Value.string (txB (Lib.decDigits n)))):=by
 have hnd:=Lib.nDigits_le20 n hn
 refine AY (args:=[(vK .u64 n),(vI 10)]) func230 O O (BA O) (zM (sL [0,1] O) (q4 (asg' O (oNl' (q1 (q4 (AL O (AD (BL (c:=true) O O jY) O (oNl' (zB (sL [0,1,4,10] O) (zA ?_)))))))))))
 refine zV O (zX (q4 (AL O (AD (Aa (c:=(decide (n<100))) O O (DB (a:=n) (b:=100))) O (oNl' (zB (sL [0,1,4,12] O) (zA ?_)))))))
 refine zL O (λhc1=>?_) (λhc1=>?_)
 ·replace hc1:=xT hc1
  exact q4 (AL O (AD (Au (c:=((n:Nat):Int)) O underlying69 underlying3 (CJ Z)) O (ck' call262 (Ss n Z) O (asg' O (oNl' (zB (sL [0,1,4] O) (zA (zF (zK (zK (ret_one O (rd_tmp (v:=(Value.string (txB (Lib.decDigits n)))) O) (λw hw=>⟨rfl,hw.out⟩))))))))))))
 ·replace hc1:=xS hc1
  refine zC (q2 (al bb O λb1=>oNl' (q2 (AL O (DH call263 (λw hw=>X7 n Z Z w (hT.below hw.out)) O (asg' O (q3 (sL [0,1,4,5,6] O) (AL O (AD (v:=(qz (jk b1) (Lib.nDigits n) 24)) (FZ (len:=24) (m:=Lib.nDigits n) O O underlying331 sizeOf5 Z jY) O (AL O ?_))))))))))
  exact AR.callRow 0 (cs':=Yz (Lib.decDigits n)) (v:=(Value.tuple #[])) (AI O) (Ar (args:=[(qz (jk b1) (Lib.nDigits n) 24),(vK .u64 n)]) O O call264) O (λw hw=>Ue _ _ 331 w (hw.get (i:=0) O) hn) (λd hd=>by cases hd<;>exact (BA O)) (q3 (sL [0,1,4,5,6] O) (AL O (AD (v:=(qz (jk b1) (Lib.nDigits n) 24)) (FZ (len:=24) (m:=Lib.nDigits n) O O underlying331 sizeOf5 Z jY) O (AD (v:=(Value.string (txB (Lib.decDigits n)))) (L3 (k:=0) O (Lib.decDigits_length n).symm O underlying86 underlying5 underlying9) O (asg' O (oNl' (zB (sL [0,1,4,5,6] O) (zA (zF (zK (ret_one O (rd_tmp (v:=(Value.string (txB (Lib.decDigits n)))) O) (λw hw=>⟨rfl,hw.out⟩))))))))))))
theorem Pp (n:Nat) (hn:n<18446744073709551616) (w:World) (hT:Rm w):Calls prog 186 #[(vK .u64 n),(vI 10)] w (Ad w (Value.string (txB (Lib.decDigits n)))):=by
 refine AY (args:=[(vK .u64 n),(vI 10)]) func186 O O (BA O) (zM (sL [0,1] O) (q4 (asg' O (oNl' (q2 (AL O (AL O (DH call230 (λw hw=>Oh n Z w (hT.below hw.out)) O (asg' O (oNl' (zB (sL [4] O) ?_)))))))))))
 exact zA (zF (ret_one O (rd_tmp (v:=(Value.string (txB (Lib.decDigits n)))) O) (λw hw=>⟨rfl,hw.out⟩)))
end

section
set_option maxRecDepth 100000
theorem NJ {n:Nat} (h:n<18446744073709551616):(Lib.decDigits n).length<=20:=by rw [Lib.decDigits_length];exact Lib.nDigits_le20 n h
theorem Yh {z:Int} (h:z.natAbs<18446744073709551616):(txI z).length<=21:=by
 have:=NJ h
 unfold txI;split<;>simp<;>omega
theorem JC (n:Nat) (hn:n<18446744073709551616) (w:World) (hT:Rm w):Calls prog 132 #[(aG (AU n))] w (Ad w (Value.string (txB (Lib.decDigits n)))):=by
 refine AY (args:=[(aG (AU n))]) func132 O O (BA O) (zM (sL [0] O) (q4 (BV (cs:=AU n) O λb1=>asg' O (q6 (sL [1,2] O) (q4 (AD (v:=(pP b1 1)) (AA O underlying71 O sizeOf9 O) O (BF 0 (Value.string (Bo n)) TE O (AD (Bj (c:=(decide (n<18446744073709551616))) O O Cm) O (oNl' (zB (sL [1,2,10] O) ?_))))))))))
 refine zA ?_
 refine zL O (λhc0=>?_) (λhc0=>?_)
 ·replace hc0:=xT hc0
  exact q4 (AD (v:=(pP b1 0)) (AA O underlying71 O sizeOf69 O) O (BF 0 (vK .u64 (CC n)) G_ O (zI (k:=12) (u:=(vK .u64 n)) O (by rw [Bh Z]) (DH call186 (λw hw=>Pp n Z w (hT.below hw.out)) O (asg' O (oNl' (zB (sL [1,2] O) (zA (zF (zK (ret_one O (rd_tmp (v:=(Value.string (txB (Lib.decDigits n)))) O) (λw hw=>⟨rfl,hw.out⟩))))))))))))
 ·replace hc0:=xS hc0
  exfalso;omega
theorem Mh (z:Int) (hz:z.natAbs<18446744073709551616) (w:World) (hT:Rm w):Calls prog 131 #[(aG (A8 z))] w (Ad w (Value.string (txB (txI z)))):=by
 have hl:=NJ hz
 refine AY (args:=[(aG (A8 z))]) func131 O O (BA O) (zM (sL [0] O) (q4 (BV (cs:=A8 z) O λb1=>asg' O (q6 (sL [1,2] O) (q4 (AD (v:=(pP b1 2)) (AA O underlying75 O sizeOf4 O) O (BF 0 (qa (decide (z<0))) WF O (oNl' (zB (sL [1,2,4] O) (zA ?_))))))))))
 refine zL O (λhc0=>?_) (λhc0=>?_)
 ·replace hc0:=xT hc0
  have he:txI z=45::Lib.decDigits z.natAbs:=by unfold txI;rw [if_pos hc0]
  exact q4 (AD (v:=(pP b1 0)) (AA O underlying75 O sizeOf73 O) O (AD (v:=(pP b1 0)) (AA O underlying73 O sizeOf71 O) O (Dy 0 (AU z.natAbs) CE O (DH call132 (λw hw=>JC z.natAbs Z w (hT.below hw.out)) O (AD (v:=(Value.string (txB (45::Lib.decDigits z.natAbs)))) (Fl (r:=(txB (45::Lib.decDigits z.natAbs))) O O (by rw [Ir];show 1+_<=_;omega) (IB [45] _)) O (asg' O (oNl' (zB (sL [1,2] O) (zA (zF (zK (ret_one O (rd_tmp (v:=(Value.string (txB (45::Lib.decDigits z.natAbs)))) O) (λw hw=>⟨by rw [he],hw.out⟩)))))))))))))
 ·replace hc0:=xS hc0
  have he:txI z=Lib.decDigits z.natAbs:=by unfold txI;rw [if_neg hc0]
  exact zC (q2 (AD (v:=(pP b1 0)) (AA O underlying75 O sizeOf73 O) O (AD (v:=(pP b1 0)) (AA O underlying73 O sizeOf71 O) O (Dy 0 (AU z.natAbs) CE O (DH call132 (λw hw=>JC z.natAbs Z w (hT.below hw.out)) O (asg' O (oNl' (zB (sL [1,2] O) (zA (zF (ret_one O (rd_tmp (v:=(Value.string (txB (Lib.decDigits z.natAbs)))) O) (λw hw=>⟨by rw [he],hw.out⟩))))))))))))
theorem Md (q:Rat) (hn:q.num.natAbs<18446744073709551616) (hd:q.den<18446744073709551616) (w:World) (hT:Rm w):Calls prog 77 #[(aG (AC q))] w (Ad w (Value.string (txB (aF q)))):=by
 have hl1:=Yh hn
 have hl2:=NJ hd
 have hdn:nw q.den<=1099511627776:=xM (Cy.2 (show q.den<4294967296^2 from hd)) jY
 refine AY (args:=[(aG (AC q))]) func77 O O (BA O) (zM (sL [0] O) (q4 (BV (cs:=AC q) O λb1=>asg' O (q6 (sL [1,2] O) (q4 (Al 0 Ba O (ck' call130 (Gq q) O (oNl' (zB (sL [1,2,4] O) (zA ?_))))))))))
 refine zL O (λhc0=>?_) (λhc0=>?_)
 ·replace hc0:=xT hc0
  have he:aF q=txI q.num:=by unfold aF;rw [if_pos hc0]
  exact q4 (AD (v:=(pP b1 0)) (AA O underlying77 O sizeOf75 O) O (Dy 0 (A8 q.num) DV O (DH call131 (λw hw=>Mh q.num Z w (hT.below hw.out)) O (asg' O (oNl' (zB (sL [1,2] O) (zA (zF (zK (ret_one O (rd_tmp (v:=(Value.string (txB (txI q.num)))) O) (λw hw=>⟨by rw [he],hw.out⟩)))))))))))
 ·replace hc0:=xS hc0
  have he:aF q=txI q.num++[47]++Lib.decDigits q.den:=by unfold aF;rw [if_neg hc0,List.append_assoc];rfl
  refine zC (q1 (DC [(0,true),(1,true),(4,true),(2,false),(3,true),(5,false),(6,false),(7,true),(8,true)] sr (Am (v:=(pP b1 0)) O (AA O underlying77 O sizeOf75 O) (GE 0 (A8 q.num) DV O (Ew 0 Ba O (zN O (DH call131 (λw hw=>Mh q.num Z w (hT.below hw.out)) O (zD sr (Am (v:=(Value.string (txB (txI q.num++[47])))) O (Fl (r:=(txB (txI q.num++[47]))) O O (by rw [Ir];show _+1<=_;omega) (IB _ [47])) (zN O (ck' call133 (den_ok q Z) O ?_)))))))))))
  exact zD sr (zN O (DH call132 (λw hw=>JC q.den Z w (hT.below hw.out)) O (zD sr (Am (v:=(Value.string (txB (txI q.num++[47]++Lib.decDigits q.den)))) O (Fl (r:=(txB (txI q.num++[47]++Lib.decDigits q.den))) O O (by rw [Ir,Ir,xL,List.length_singleton];omega) (IB _ _)) (pS' O (zQ (zB (sL [1,2] O) (zA (zF (ret_one O (rd_tmp (v:=(Value.string (txB (txI q.num++[47]++Lib.decDigits q.den)))) O) (λw hw=>⟨by rw [he],hw.out⟩)))))))))))
end
section
set_option maxRecDepth 100000
end
section
set_option maxRecDepth 100000
end
section
section
variable {ts:List T3} {a b N:Nat}
end
end
section
set_option maxRecDepth 100000
end
section
set_option maxRecDepth 100000
end
section
section
variable {P:Program} {ops:Array Oper} {rest:List Oper} {Q:Exit->Act->World->Prop} {n:Nat} {F:List (Nat×Value)} {w0:BC} {L:List As} {d:Option Tmp} {op:Op} {t:TypeId} {p:String} {af:Array Edge} {g:Nat×Bool}
end
end
section
set_option maxRecDepth 100000
theorem IG {ps:List Pt} {ts:List T3} {ss:List Z3} (x:MN ps ts ss) (hp:ps.length<=1000000000) (ht:ts.length<=1000000000) (hs:ss.length<=1000000000) (w:World) {S:Nat->Prop} (hx:Ro S w x):Calls prog 35 #[(aG (CR x))] w (D6 (λa:Yv ps ts ss=>aG (aO a)) aP S w):=by
 obtain ⟨y,hy,hro⟩:=RD x
 have k:=TL y hp (by rw [xK];exact ht) hs w (hro hx)
 rw [hy] at k
 exact k.mono λe w' h=>h.toCpN
end
section
set_option maxRecDepth 100000
set_option maxHeartbeats 1000000 in
theorem X8 {ps:List Pt} {ts:List T3} {ss:List Z3} (x:MN ps ts ss) (tc:Nat) (hnb:Be ps.length ts=true) (htl:ts.length<=1000000) (hN:ps.length<=1000000) (hz:∀i,Bc (cor ps i)<=200000) (ho1:OwnOk x.b.p ts.length tc) (w:World) {w0:BC} {LR:List As} {S:Nat->Prop} (hnb2:∀b,x.b.p.map (·.block)=some b->w0.w.heap.size<=b) (hda:∀b,x.b.p.map (·.block)=some b->x.a.row.foot≠some b) (hdc:∀b,x.b.p.map (·.block)=some b->x.c.row.foot≠some b) (hdL:∀y∈LR,y.ro=false\/∀b,x.b.p.map (·.block)=some b->y.foot≠some b) (lx:At w0 S x) (hW:BD w0 w (AF x.a.p (rowsL AZ ps)::AF x.b.p (rowsL Ac ts)::AF x.c.p (rowsL BP ss)::JK x.b.p 105 3 ts.length tc (rowsL Ac ts)::LR)):Calls prog 129 #[(aG (CR x))] w (λe w'=>e=.returned (qa (H1 ps ts))/\∃u:Unit,True/\BD w0 w' (rowW x.b.p 105 3 ts.length tc (rowsL Ac (FR ps ts))::AF x.a.p (rowsL AZ ps)::AF x.c.p (rowsL BP ss)::LR)):=by
 refine MR (args:=[(aG (CR x))]) func129 O O (BA O) hW (zM (sL [0] O) (q4 (BV (cs:=CR x) O λb1=>asg' O (q6 (sL [1,2] O) (q4 (Al 0 Bz O (cX (S:=S) (cs:=rowsL Bg (BR ts)) (k:=(BR ts).length) (args:=[(aG (CR x))]) call34 (λw hw=>(by obtain ⟨y2,hy2,hro⟩:=Y2 x;have h9:=Hr y2 Z Z hnb w (hro (Co hw 1 O lx));rw [hy2] at h9;exact h9)) O O O λo lo=>?_)))))))
 have hel:=Pk ts
 refine AD (v:=(vN ((BR ts).length))) (AE O underlying46) O (AL O (oNl' (zB (sL [1,2,8,9,10] O) (zA (zJ ?_)))))
 refine zw (tg λ(i:Nat)=>i<=(BR ts).length/\SU ps ts=nexI ps ts ((BR ts).drop i) i) (tg λ(i:Nat)=>[(1,(pP b1 0)),(8,(qz o.p ((BR ts).length) o.c)),(9,(vN ((BR ts).length))),(10,(vN i))]) (tg λ(i:Nat)=>(AF o.p (rowsL Bg (BR ts))::AX b1 30 (CR x)::AF x.a.p (rowsL AZ ps)::AF x.b.p (rowsL Ac ts)::AF x.c.p (rowsL BP ss)::JK x.b.p 105 3 ts.length tc (rowsL Ac ts)::LR)) (tg λ(i:Nat)=>(BR ts).length-i) 0 (⟨xJ _,rfl⟩) (sF O) sr (λi hJ=>?_)
 obtain ⟨hi,he⟩:=hJ
 refine q4 (AD (Aa (c:=(decide (i<((BR ts).length)))) O O (DB (a:=i) (b:=(BR ts).length))) O (oNl' (q1 ?_)))
 refine zL O (λhc0=>?_) (λhc0=>?_)
 ·replace hc0:=xT hc0
  obtain ⟨E,hE⟩:∃q,q=((BR ts).getD i jA):=⟨_,rfl⟩
  have hEm:E∈BR ts:=by rw [hE,List.getD,xP hc0];exact List.getElem_mem hc0
  refine zC (q1 (zJ (q4 (AD (v:=(pP (pB o.p) (pO o.p+i*4))) (AM (j:=i) O O o.ok underlying46 sizeOf49 O Z) O (AD (v:=(aG (Bg ((BR ts).getD i jA)))) (AO (vs:=Bg ((BR ts).getD i jA)) (i:=0) O O (Ay.ne o.ok Z) Hg (Af DD _ _ _ Z) (DD _)) O (zI (k:=13) (u:=(aG (Bg E))) O (by rw [hE]) (al Io O λb2=>Ag O sizeOf49 O (q3 (sL [1,8,9,10,4] O) (Al 2 Bz O (Al 0 Hg O ?_))))))))))
  refine DH call80 (λw hw=>LU x E hEm hnb hN w (Co hw 3 O lx)) O (AL O (AD (AK (v:=(aG (Jg (CF ts E)))) O O) O (AD (AK (v:=(qa (Ci E))) O O) O (al Lh O λb3=>Ag O sizeOf157 O (asg' O (q3 (sL [1,8,9,10,4,5,6] O) (AL O (AL O ?_))))))))
  refine ze (FM:=[(1,(pP b1 0)),(8,(qz o.p ((BR ts).length) o.c)),(9,(vN ((BR ts).length))),(10,(vN i)),(4,(pP b2 0)),(5,(pP b3 0)),(6,(qa (Ci E))),(20,(qa (Ci E))),(21,(qa (Ci E))),(26,(qa ((Ci E)&&(!(FK ps ts E)))))]) (LM:=(AX b3 157 (Jg (CF ts E))::AX b2 49 (Bg E)::AF o.p (rowsL Bg (BR ts))::AX b1 30 (CR x)::AF x.a.p (rowsL AZ ps)::AF x.b.p (rowsL Ac ts)::AF x.c.p (rowsL BP ss)::JK x.b.p 105 3 ts.length tc (rowsL Ac ts)::LR)) 5 ?_ ?_
  ·rcases xQ (Ci E) with hg1|hg1
   ·refine zI (k:=21) (u:=qa true) O (by rw [hg1]) ?_
    have hg1':=hg1
    skip
    exact BM (v:=(aG (Jg (CF ts E)))) O (Aj (i:=0) (vs:=Jg (CF ts E)) O O G9.a G9.s O O) (BM (v:=(aG (CR x))) O (Aj (i:=3) (vs:=CR x) O O Bz.a Bz.s O O) (zh (v:=(qa (FK ps ts E))) (Ab O) (Ar (args:=[(aG (Jg (CF ts E))),(aG (CR x))]) O O call81) (λw hw=>Ol x E hEm (by simpa using hg1') hnb hN hz w (Co hw 4 O lx)) O (BA O) (BM (v:=(qa (!(FK ps ts E)))) O (BK (c:=(!(FK ps ts E))) O O) (AD (v:=(qa (!(FK ps ts E)))) (AW O O) O (oNl' (zR Cc (xR _)))))))
   ·refine zI (k:=21) (u:=qa false) O (by rw [hg1]) ?_
    have hg1':=hg1
    skip
    exact BO O (BO O (BO O (BO O (AD (v:=(qa false)) (AQ O O) O (oNl' (zR Cc (xR _)))))))
  refine oNl' (zB (sL [1,8,9,10,4,5,26] O) (zA ?_))
  refine zL O (λhc1=>?_) (λhc1=>?_)
  ·simp only [jK] at hc1
   obtain ⟨hb1,hl1⟩:Ci E=true/\FK ps ts E=false:=by simpa using hc1
   have hfin:=he.trans (VO hc0 (by rw [<-hE];exact hl1))
   obtain ⟨g1,g2⟩:=E2.1 hb1
   obtain ⟨p,q,c,d,h2⟩:=IA hnb Z hEm g1 g2
   have e9:Jg (CF ts E)=[vN E.a,vN E.b,vN p,vN q,vN c,vN d]:=by rw [(Cz h2).1];show [vN E.a,vN E.b,.int .i64 E.l,.int .i64 E.r,vN c,vN d]=_;rw [h2.l,h2.r]
   refine zX (yu (A:=[AX b3 157 (Jg (CF ts E)),AX b2 49 (Bg E),AX b1 30 (CR x),AF x.a.p (rowsL AZ ps),AF x.c.p (rowsL BP ss)]) (B:=LR) (p:=x.b.p) (T:=105) (z:=3) (m:=ts.length) (cp:=tc) (cs:=rowsL Ac ts) (sk (sk (sl (sk (sk (sl sr)))))) hnb2 (by intro y hy;simp only [xN,List.not_mem_nil,or_false] at hy;rcases hy with rfl|rfl|rfl|rfl|rfl;exact .inl rfl;exact .inl rfl;exact .inl rfl;exact .inr hda;exact .inr hdc) hdL (zH (Al 0 G9 O (Al 2 Bz O (yX (L2:=(rowW x.b.p 105 3 ts.length tc (rowsL Ac ts)::AF x.a.p (rowsL AZ ps)::AX b3 157 (Jg (CF ts E))::AX b2 49 (Bg E)::AX b1 30 (CR x)::AF x.c.p (rowsL BP ss)::LR)) (v:=qa (GK ps E.a E.b c d)) (α:=Unit) (K:=λ_=>True) (LO:=λ_=>(AX b3 157 (Jg (CF ts E))::AX b2 49 (Bg E)::AX b1 30 (CR x)::AF x.a.p (rowsL AZ ps)::AF x.c.p (rowsL BP ss)::rowW x.b.p 105 3 ts.length tc (rowsL Ac (MA ps ts E.a E.b p q c d))::LR)) (AI O) (Df (args:=[(aG (Jg (CF ts E))),(aG (CR x))]) (caps:=[]) (all:=[(aG (Jg (CF ts E))),(aG (CR x))]) O O O call84) (List.Perm.append_right LR (DS (L:=[AX b3 157 (Jg (CF ts E)),AX b2 49 (Bg E),AX b1 30 (CR x),AF x.a.p (rowsL AZ ps),AF x.c.p (rowsL BP ss),rowW x.b.p 105 3 ts.length tc (rowsL Ac ts)]) (L':=[rowW x.b.p 105 3 ts.length tc (rowsL Ac ts),AF x.a.p (rowsL AZ ps),AX b3 157 (Jg (CF ts E)),AX b2 49 (Bg E),AX b1 30 (CR x),AF x.c.p (rowsL BP ss)]) [5,3,0,1,2,4] (show List.Perm [5,3,0,1,2,4] (List.range 6) by decide) O)) (λw hw=>(by have h9:=NT ps ts E.a E.b p q c d h2.sc.a h2.sc.b h2.sc.c h2.sd.c h2.pl h2.ql hN htl hz x.a.p x.b.p x.c.p x.a.c tc x.b.c ss.length x.c.c ho1 x.b.ok x.a.ok w hw;rw [<-e9] at h9;exact h9.mono λe w' ⟨h1,t,h3,h4⟩=>⟨h1,t,h3,h4.perm (List.Perm.append_right LR (DS (L:=[rowW x.b.p 105 3 ts.length tc (rowsL Ac (MA ps ts E.a E.b p q c d)),AF x.a.p (rowsL AZ ps),AX b3 157 (Jg (CF ts E)),AX b2 49 (Bg E),AX b1 30 (CR x),AF x.c.p (rowsL BP ss)]) (L':=[AX b3 157 (Jg (CF ts E)),AX b2 49 (Bg E),AX b1 30 (CR x),AF x.a.p (rowsL AZ ps),AF x.c.p (rowsL BP ss),rowW x.b.p 105 3 ts.length tc (rowsL Ac (MA ps ts E.a E.b p q c d))]) [2,3,4,1,5,0] (show List.Perm [2,3,4,1,5,0] (List.range 6) by decide) O))⟩)) (λd hd=>by cases hd<;>exact (BA O)) λ_ _=>asg' O (oNl' (zB (sL [1,8,9,10,4,5,2] O) (zA (zF (zS ?_))))))))))
   exact zK (z6 (zS (zK (ret_one O (rd_tmp (v:=(qa (GK ps E.a E.b c d))) O) (λw hw=>⟨by rw [(Y5 hfin hE h2).1],(),trivial,by rw [(Y5 hfin hE h2).2];exact (hw.weak (sl (sl (sl sr)))).perm (List.perm_middle (l₁:=[x.a.row,x.c.row]) (l₂:=LR))⟩)))))
  ·simp only [jK] at hc1
   have hok:FK ps ts E=true:=by have h9:=Q_ ps ts E;cases hb:Ci E with|false=>rw [<-h9,hb];rfl|true=>simpa [hb] using hc1
   exact zC (zG (zA (zH (AD (AT (c:=((i+1:Nat):Int)) O O (AV (a:=i) (b:=1) Z)) O (AL O (oNl' (zB (sL [1,8,9,10,4,5] O) (zl (i+1) (⟨Z,he.trans (SV Z (by rw [<-hE];exact hok))⟩) Z (sF O) (sl (sl sr))))))))))
 ·replace hc0:=xS hc0
  have hfin:=he.trans (VN hc0)
  exact zU (zO (zW (zP (q1 (yu (A:=[AX b1 30 (CR x),AF x.a.p (rowsL AZ ps),AF x.c.p (rowsL BP ss)]) (B:=LR) (p:=x.b.p) (T:=105) (z:=3) (m:=ts.length) (cp:=tc) (cs:=rowsL Ac ts) (sl (sk (sk (sl sr)))) hnb2 (by intro y hy;simp only [xN,List.not_mem_nil,or_false] at hy;rcases hy with rfl|rfl|rfl;exact .inl rfl;exact .inr hda;exact .inr hdc) hdL (zH (asg' O (oNl' (zA (zF (ret_one O (rd_tmp (v:=(qa false)) O) (λw hw=>⟨by rw [(Y6 hfin).1],(),trivial,by rw [(Y6 hfin).2];exact (hw.weak (sl sr)).perm (List.perm_middle (l₁:=[x.a.row,x.c.row]) (l₂:=LR))⟩))))))))))))
theorem VQ {ps:List Pt} {ts:List T3} {ss:List Z3} (x:MN ps ts ss) (tc:Nat) (hnb:Be ps.length ts=true) (htl:ts.length<=1000000) (hN:ps.length<=1000000) (hz:∀i,Bc (cor ps i)<=200000) (ho1:OwnOk x.b.p ts.length tc) (w:World) {w0:BC} {LR:List As} (he0:w0.ex=none) (ha:∀b,x.a.p.map (·.block)=some b->w0.w.heap.size<=b) (hc:∀b,x.c.p.map (·.block)=some b->w0.w.heap.size<=b) (hW:BD w0 w (rowW x.b.p 105 3 ts.length tc (rowsL Ac ts)::AF x.a.p (rowsL AZ ps)::AF x.c.p (rowsL BP ss)::LR)):Calls prog 129 #[(aG (CR x))] w (λe w'=>e=.returned (qa (H1 ps ts))/\∃u:Unit,True/\BD w0 w' (rowW x.b.p 105 3 ts.length tc (rowsL Ac (FR ps ts))::AF x.a.p (rowsL AZ ps)::AF x.c.p (rowsL BP ss)::LR)):=by
 obtain ⟨h1,h2,h3⟩:=hW.frz2 ho1 (AS Aq _) he0
 exact X8 x tc hnb htl hN hz ho1 w h2 (h3 _ List.mem_cons_self) (h3 _ (List.mem_cons_of_mem _ List.mem_cons_self)) (λy hy=>.inr (h3 y (List.mem_cons_of_mem _ (List.mem_cons_of_mem _ hy)))) (S:=λ_=>False) (At.mn (At.new ha) (At.new h2) (At.new hc)) (h1.perm (List.Perm.append_right LR (DS (L:=[AF x.b.p (rowsL Ac ts),JK x.b.p 105 3 ts.length tc (rowsL Ac ts),x.a.row,x.c.row]) (L':=[x.a.row,AF x.b.p (rowsL Ac ts),x.c.row,JK x.b.p 105 3 ts.length tc (rowsL Ac ts)]) [2,0,3,1] (show List.Perm [2,0,3,1] (List.range 4) by decide) O)))
end
section
set_option maxRecDepth 100000
theorem FG  :Instr.fill ([(0,1),(1,1),(2,1)].toArray[·]?) ([jj,jj,jj]).toArray []=some ([jj,jj,jj]).toArray:=by kernel_rfl
theorem TO {ps:List Pt} {ts:List T3} {ss:List Z3} (x:MN ps ts ss) (u v:Int) (hnb:Be ps.length ts=true) (htl:ts.length<=1000000) (hN:ps.length<=1000000) (hsl:ss.length<=1000000) (hno:Gp ts u v<0) (w:World) {S:Nat->Prop} (hx:Ro S w x):Calls prog 28 #[(aG (CR x)),(vI u),(vI v)] w (Bf (TB [] [] [] 1) S w):=by
 have lx:=Da (W:=w) hx
 refine Ah (args:=[(aG (CR x)),(vI u),(vI v)]) (L:=[AF x.a.p (rowsL AZ ps),AF x.b.p (rowsL Ac ts),AF x.c.p (rowsL BP ss)]) func28 O O (BA O) (Db hx A7) (zM (sL [0,1,2] O) (q4 (BV (cs:=CR x) O λb1=>al Hh O λb2=>asg' O (q3 (sL [1,2,3,6,7] O) (Al 1 Bz O (AL O (AL O (DH (args:=[(aG (CR x)),(vI u),(vI v)]) (v:=(Value.tuple #[(aG (Bg (Dl ts u v))),(qa false)])) call79 (λw hw=>(by have h9:=IN x u v hnb htl hN w (Co hw 2 O lx);rw [xH (show ¬0<=Gp ts u v by omega)] at h9;exact h9)) O (AL O ?_)))))))))
 refine AD (AK (v:=(aG (Bg (Dl ts u v)))) O O) O (AD (AK (v:=(qa false)) O O) O (al Io O λb3=>Ag O sizeOf49 O (asg' O (q6 (sL [3,6,7,8,9] O) (q4 (AL O (AD (BK (c:=true) O O) O (oNl' (zB (sL [3,6,7,8,20] O) (zA ?_))))))))))
 exact zV O (q4 (AD (v:=(aG ([jj,jj,jj]))) (AP (zs:=[jj,jj,jj]) (vs:=[jj,jj,jj]) (pv:=[]) (places:=[(0,1),(1,1),(2,1)]) zeroValue30 underlying30 (λw=>by simp [sizeOf23,sizeOf24,sizeOf28]) O (FG )) O (Cd O sizeOf30 O (asg' O (oNl' (zB (sL [3,6,7,8] O) (zA (zF (zK (Bu O (Ao (i:=1) (cs:=[jj,jj,jj]) O O isAgg30 sizeOf30 O) (rd_tmp (v:=(vI 1)) O) (λw hw=>(QN hw 1 O))))))))))))
theorem TP {ps:List Pt} {ts:List T3} {ss:List Z3} (x:MN ps ts ss) (u v:Int) (hnb:Be ps.length ts=true) (htl:ts.length<=1000000) (hN:ps.length<=1000000) (hsl:ss.length<=1000000) (hed:0<=Gp ts u v) (hbo:Ci (Dl ts u v)=false) (w:World) {S:Nat->Prop} (hx:Ro S w x):Calls prog 28 #[(aG (CR x)),(vI u),(vI v)] w (Bf (TB [] [] [] 7) S w):=by
 have lx:=Da (W:=w) hx
 refine Ah (args:=[(aG (CR x)),(vI u),(vI v)]) (L:=[AF x.a.p (rowsL AZ ps),AF x.b.p (rowsL Ac ts),AF x.c.p (rowsL BP ss)]) func28 O O (BA O) (Db hx A7) (zM (sL [0,1,2] O) (q4 (BV (cs:=CR x) O λb1=>al Hh O λb2=>asg' O (q3 (sL [1,2,3,6,7] O) (Al 1 Bz O (AL O (AL O (DH (args:=[(aG (CR x)),(vI u),(vI v)]) (v:=(Value.tuple #[(aG (Bg (Dl ts u v))),(qa true)])) call79 (λw hw=>(by have h9:=IN x u v hnb htl hN w (Co hw 2 O lx);rw [xI hed] at h9;exact h9)) O (AL O ?_)))))))))
 refine AD (AK (v:=(aG (Bg (Dl ts u v)))) O O) O (AD (AK (v:=(qa true)) O O) O (al Io O λb3=>Ag O sizeOf49 O (asg' O (q6 (sL [3,6,7,8,9] O) (q4 (AL O (AD (BK (c:=false) O O) O (oNl' (zB (sL [3,6,7,8,20] O) (zA ?_))))))))))
 refine zT O (zC (q2 (Al 2 Bz O (yD (S:=S) (V:=λa:Yv ps ts ss=>aG (aO a)) (LW:=aP) (args:=[(aG (CR x))]) call35 (λw hw=>IG x Z Z Z w (Co hw 3 O lx)) O λcp hcp=>F8 5 (off:=0) (vs:=[(qz cp.a.p ps.length ps.length),(qz cp.b.p ts.length ts.length),(qz cp.c.p ss.length ss.length)]) (cs':=[(qz cp.a.p ps.length ps.length),(qz cp.b.p ts.length ts.length),(qz cp.c.p ss.length ss.length)]) (AI O) O sizeOf30 O (q6 (sL [3,6,7,8] O) (q4 (Al 5 Bz O (zz 2 O cp.a.ok (AS An _) O O λhn_cp_a=>zz 0 O cp.c.ok (AS Cu _) O O λhn_cp_c=>Al 3 Hg O ?_))))))))
 refine DH (args:=[(aG ([(qz cp.a.p ps.length ps.length),(qz cp.b.p ts.length ts.length),(qz cp.c.p ss.length ss.length)])),(aG (Bg (Dl ts u v)))]) (v:=(Value.tuple #[(aG (Jg (CF ts (Dl ts u v)))),(qa false)])) call80 (λw hw=>(by have h9:=LU (⟨⟨cp.a.p,ps.length,cp.a.ok.clip⟩,⟨cp.b.p,ts.length,cp.b.ok.clip⟩,⟨cp.c.p,ss.length,cp.c.ok.clip⟩⟩:MN ps ts ss) (Dl ts u v) (HK hed) hnb hN w (VC (Sl (Co (S:=S) hw 2 O (At.new hn_cp_a))) (GW hw 1 O cp.b.ok (AS Aq _) cp.b.ok.clip) (Sl (Co (S:=S) hw 0 O (At.new hn_cp_c))));rw [hbo] at h9;exact h9)) O (AL O (AD (AK (v:=(aG (Jg (CF ts (Dl ts u v))))) O O) O (AD (AK (v:=(qa false)) O O) O (al Lh O λb4=>Ag O sizeOf157 O (asg' O (q3 (sL [3,6,7,8,10,11] O) (AL O (AD (BK (c:=true) O O) O (AL O (BO O ?_))))))))))
 refine BO O (BO O (BO O (AD (v:=(qa true)) (AW O O) O (oNl' (zB (sL [3,6,7,8,10,37] O) (zA (zV O (q4 (AD (v:=(aG ([jj,jj,jj]))) (AP (zs:=[jj,jj,jj]) (vs:=[jj,jj,jj]) (pv:=[]) (places:=[(0,1),(1,1),(2,1)]) zeroValue30 underlying30 (λw=>by simp [sizeOf23,sizeOf24,sizeOf28]) O (FG )) O (F8 5 (off:=0) (vs:=[jj,jj,jj]) (cs':=[jj,jj,jj]) (AI O) O sizeOf30 O (asg' O ?_)))))))))))
 exact oNl' (zB (sL [3,6,7,8,10] O) (zA (zF (zK (Bu O (Ao (i:=5) (cs:=[jj,jj,jj]) O O isAgg30 sizeOf30 O) (rd_tmp (v:=(vI 7)) O) (λw hw=>(QN hw 7 O)))))))
theorem TQ {ps:List Pt} {ts:List T3} {ss:List Z3} (x:MN ps ts ss) (u v:Int) (hnb:Be ps.length ts=true) (htl:ts.length<=1000000) (hN:ps.length<=1000000) (hsl:ss.length<=1000000) (hz:∀i,Bc (cor ps i)<=200000) (hed:0<=Gp ts u v) (a b p q c d:Nat) (h2:Rn ps.length ts (Dl ts u v) p q c d) (hE:Dl ts u v=⟨a,b,(p:Int),(q:Int)⟩) (hB:GK ps a b c d=false) (w:World) {S:Nat->Prop} (hx:Ro S w x):Calls prog 28 #[(aG (CR x)),(vI u),(vI v)] w (Bf (TB [] [] [] 7) S w):=by
 have h2a:a<ps.length:=by have h9:=h2.sc.a;rw [hE] at h9;exact h9
 have h2b:b<ps.length:=by have h9:=h2.sc.b;rw [hE] at h9;exact h9
 have h2c:=h2.sc.c
 have h2d:=h2.sd.c
 have lx:=Da (W:=w) hx
 refine Ah (args:=[(aG (CR x)),(vI u),(vI v)]) (L:=[AF x.a.p (rowsL AZ ps),AF x.b.p (rowsL Ac ts),AF x.c.p (rowsL BP ss)]) func28 O O (BA O) (Db hx A7) (zM (sL [0,1,2] O) (q4 (BV (cs:=CR x) O λb1=>al Hh O λb2=>asg' O (q3 (sL [1,2,3,6,7] O) (Al 1 Bz O (AL O (AL O (DH (args:=[(aG (CR x)),(vI u),(vI v)]) (v:=(Value.tuple #[(aG ([(vN a),(vN b),(vN p),(vN q)])),(qa true)])) call79 (λw hw=>(by have h9:=IN x u v hnb htl hN w (Co hw 2 O lx);rw [xI hed,hE] at h9;exact h9)) O (AL O ?_)))))))))
 refine AD (AK (v:=(aG ([(vN a),(vN b),(vN p),(vN q)]))) O O) O (AD (AK (v:=(qa true)) O O) O (al Io O λb3=>Ag O sizeOf49 O (asg' O (q6 (sL [3,6,7,8,9] O) (q4 (AL O (AD (BK (c:=false) O O) O (oNl' (zB (sL [3,6,7,8,20] O) (zA ?_))))))))))
 refine zT O (zC (q2 (Al 2 Bz O (yD (S:=S) (V:=λa:Yv ps ts ss=>aG (aO a)) (LW:=aP) (args:=[(aG (CR x))]) call35 (λw hw=>IG x Z Z Z w (Co hw 3 O lx)) O λcp hcp=>F8 5 (off:=0) (vs:=[(qz cp.a.p ps.length ps.length),(qz cp.b.p ts.length ts.length),(qz cp.c.p ss.length ss.length)]) (cs':=[(qz cp.a.p ps.length ps.length),(qz cp.b.p ts.length ts.length),(qz cp.c.p ss.length ss.length)]) (AI O) O sizeOf30 O (q6 (sL [3,6,7,8] O) (q4 (Al 5 Bz O (zz 2 O cp.a.ok (AS An _) O O λhn_cp_a=>zz 0 O cp.c.ok (AS Cu _) O O λhn_cp_c=>Al 3 Hg O ?_))))))))
 refine DH (args:=[(aG ([(qz cp.a.p ps.length ps.length),(qz cp.b.p ts.length ts.length),(qz cp.c.p ss.length ss.length)])),(aG ([(vN a),(vN b),(vN p),(vN q)]))]) (v:=(Value.tuple #[(aG ([(vN a),(vN b),(vN p),(vN q),(vN c),(vN d)])),(qa true)])) call80 (λw hw=>(by have h9:=LU (⟨⟨cp.a.p,ps.length,cp.a.ok.clip⟩,⟨cp.b.p,ts.length,cp.b.ok.clip⟩,⟨cp.c.p,ss.length,cp.c.ok.clip⟩⟩:MN ps ts ss) (Dl ts u v) (HK hed) hnb hN w (VC (Sl (Co (S:=S) hw 2 O (At.new hn_cp_a))) (GW hw 1 O cp.b.ok (AS Aq _) cp.b.ok.clip) (Sl (Co (S:=S) hw 0 O (At.new hn_cp_c))));rw [(Cz h2).1,(Cz h2).2,hE] at h9;exact h9)) O (AL O (AD (AK (v:=(aG ([(vN a),(vN b),(vN p),(vN q),(vN c),(vN d)]))) O O) O (AD (AK (v:=(qa true)) O O) O (al Lh O λb4=>Ag O sizeOf157 O (asg' O (q3 (sL [3,6,7,8,10,11] O) (AL O (AD (BK (c:=false) O O) O (AL O (BM (v:=(aG ([(vN a),(vN b),(vN p),(vN q),(vN c),(vN d)]))) O (Aj (i:=0) (vs:=[(vN a),(vN b),(vN p),(vN q),(vN c),(vN d)]) O O G9.a G9.s O O) ?_))))))))))
 refine BM (v:=(aG ([(qz cp.a.p ps.length ps.length),(qz cp.b.p ts.length ts.length),(qz cp.c.p ss.length ss.length)]))) O (Aj (i:=6) (vs:=[(qz cp.a.p ps.length ps.length),(qz cp.b.p ts.length ts.length),(qz cp.c.p ss.length ss.length)]) O O Bz.a Bz.s O O) (yX (v:=qa false) (α:=Unit) (K:=λ_=>True) (LO:=λ_=>[AX b4 157 ([(vN a),(vN b),(vN p),(vN q),(vN c),(vN d)]),AF cp.c.p (rowsL BP ss),rowW cp.b.p 105 3 ts.length cp.b.c (rowsL Ac ts),AF cp.a.p (rowsL AZ ps),AX b3 49 ([(vN a),(vN b),(vN p),(vN q)]),AX b2 30 ([jj,jj,jj]),AX b1 30 ([(qz cp.a.p ps.length ps.length),(qz cp.b.p ts.length ts.length),(qz cp.c.p ss.length ss.length)]),AF x.a.p (rowsL AZ ps),AF x.b.p (rowsL Ac ts),AF x.c.p (rowsL BP ss)]) (Ab O) (Df (args:=[(aG ([(vN a),(vN b),(vN p),(vN q),(vN c),(vN d)])),(aG ([(qz cp.a.p ps.length ps.length),(qz cp.b.p ts.length ts.length),(qz cp.c.p ss.length ss.length)]))]) (caps:=[]) (all:=[(aG ([(vN a),(vN b),(vN p),(vN q),(vN c),(vN d)])),(aG ([(qz cp.a.p ps.length ps.length),(qz cp.b.p ts.length ts.length),(qz cp.c.p ss.length ss.length)]))]) O O O call84) (DS [2,3,0,1,4,5,6,7,8,9] (show List.Perm [2,3,0,1,4,5,6,7,8,9] (List.range 10) by decide) O) (λw hw=>(NT ps ts a b p q c d h2a h2b h2c h2d h2.pl h2.ql hN htl hz cp.a.p cp.b.p cp.c.p ps.length cp.b.c ts.length ss.length ss.length cp.b.ok cp.b.ok.clip cp.a.ok.clip w (LR:=[AX b4 157 ([(vN a),(vN b),(vN p),(vN q),(vN c),(vN d)]),AF cp.c.p (rowsL BP ss),AX b3 49 ([(vN a),(vN b),(vN p),(vN q)]),AX b2 30 ([jj,jj,jj]),AX b1 30 ([(qz cp.a.p ps.length ps.length),(qz cp.b.p ts.length ts.length),(qz cp.c.p ss.length ss.length)]),AF x.a.p (rowsL AZ ps),AF x.b.p (rowsL Ac ts),AF x.c.p (rowsL BP ss)]) hw).mono λe w' ⟨h1,t,h3,h4⟩=>(by rw [KD hB] at h4;exact ⟨by rw [h1,hB],t,h3,h4.perm (DS [2,3,0,1,4,5,6,7,8,9] (show List.Perm [2,3,0,1,4,5,6,7,8,9] (List.range 10) by decide) O)⟩)) (λd hd=>by cases hd<;>exact (BA O)) λ_ _=>BM (v:=(qa true)) O (BK (c:=true) O O) (AD (v:=(qa true)) (AQ O O) O (oNl' (zB (sL [3,6,7,8,10,37] O) (zA (zV O (q4 (AD (v:=(aG ([jj,jj,jj]))) (AP (zs:=[jj,jj,jj]) (vs:=[jj,jj,jj]) (pv:=[]) (places:=[(0,1),(1,1),(2,1)]) zeroValue30 underlying30 (λw=>by simp [sizeOf23,sizeOf24,sizeOf28]) O (FG )) O (F8 5 (off:=0) (vs:=[jj,jj,jj]) (cs':=[jj,jj,jj]) (AI O) O sizeOf30 O (asg' O ?_))))))))))
 exact oNl' (zB (sL [3,6,7,8,10] O) (zA (zF (zK (Bu O (Ao (i:=5) (cs:=[jj,jj,jj]) O O isAgg30 sizeOf30 O) (rd_tmp (v:=(vI 7)) O) (λw hw=>(QN hw 7 O)))))))
theorem TR {ps:List Pt} {ts:List T3} {ss:List Z3} (x:MN ps ts ss) (u v:Int) (hnb:Be ps.length ts=true) (htl:ts.length<=1000000) (hN:ps.length<=1000000) (hsl:ss.length<=1000000) (hz:∀i,Bc (cor ps i)<=200000) (hed:0<=Gp ts u v) (a b p q c d:Nat) (h2:Rn ps.length ts (Dl ts u v) p q c d) (hE:Dl ts u v=⟨a,b,(p:Int),(q:Int)⟩) (hB:GK ps a b c d=true) (w:World) {S:Nat->Prop} (hx:Ro S w x):Calls prog 28 #[(aG (CR x)),(vI u),(vI v)] w (Bf (TB ps (I4 ts a b p q c d) ss 0) S w):=by
 have h2a:a<ps.length:=by have h9:=h2.sc.a;rw [hE] at h9;exact h9
 have h2b:b<ps.length:=by have h9:=h2.sc.b;rw [hE] at h9;exact h9
 have h2c:=h2.sc.c
 have h2d:=h2.sd.c
 have lx:=Da (W:=w) hx
 refine Ah (args:=[(aG (CR x)),(vI u),(vI v)]) (L:=[AF x.a.p (rowsL AZ ps),AF x.b.p (rowsL Ac ts),AF x.c.p (rowsL BP ss)]) func28 O O (BA O) (Db hx A7) (zM (sL [0,1,2] O) (q4 (BV (cs:=CR x) O λb1=>al Hh O λb2=>asg' O (q3 (sL [1,2,3,6,7] O) (Al 1 Bz O (AL O (AL O (DH (args:=[(aG (CR x)),(vI u),(vI v)]) (v:=(Value.tuple #[(aG ([(vN a),(vN b),(vN p),(vN q)])),(qa true)])) call79 (λw hw=>(by have h9:=IN x u v hnb htl hN w (Co hw 2 O lx);rw [xI hed,hE] at h9;exact h9)) O (AL O ?_)))))))))
 refine AD (AK (v:=(aG ([(vN a),(vN b),(vN p),(vN q)]))) O O) O (AD (AK (v:=(qa true)) O O) O (al Io O λb3=>Ag O sizeOf49 O (asg' O (q6 (sL [3,6,7,8,9] O) (q4 (AL O (AD (BK (c:=false) O O) O (oNl' (zB (sL [3,6,7,8,20] O) (zA ?_))))))))))
 refine zT O (zC (q2 (Al 2 Bz O (yD (S:=S) (V:=λa:Yv ps ts ss=>aG (aO a)) (LW:=aP) (args:=[(aG (CR x))]) call35 (λw hw=>IG x Z Z Z w (Co hw 3 O lx)) O λcp hcp=>F8 5 (off:=0) (vs:=[(qz cp.a.p ps.length ps.length),(qz cp.b.p ts.length ts.length),(qz cp.c.p ss.length ss.length)]) (cs':=[(qz cp.a.p ps.length ps.length),(qz cp.b.p ts.length ts.length),(qz cp.c.p ss.length ss.length)]) (AI O) O sizeOf30 O (q6 (sL [3,6,7,8] O) (q4 (Al 5 Bz O (zz 2 O cp.a.ok (AS An _) O O λhn_cp_a=>zz 0 O cp.c.ok (AS Cu _) O O λhn_cp_c=>Al 3 Hg O ?_))))))))
 refine DH (args:=[(aG ([(qz cp.a.p ps.length ps.length),(qz cp.b.p ts.length ts.length),(qz cp.c.p ss.length ss.length)])),(aG ([(vN a),(vN b),(vN p),(vN q)]))]) (v:=(Value.tuple #[(aG ([(vN a),(vN b),(vN p),(vN q),(vN c),(vN d)])),(qa true)])) call80 (λw hw=>(by have h9:=LU (⟨⟨cp.a.p,ps.length,cp.a.ok.clip⟩,⟨cp.b.p,ts.length,cp.b.ok.clip⟩,⟨cp.c.p,ss.length,cp.c.ok.clip⟩⟩:MN ps ts ss) (Dl ts u v) (HK hed) hnb hN w (VC (Sl (Co (S:=S) hw 2 O (At.new hn_cp_a))) (GW hw 1 O cp.b.ok (AS Aq _) cp.b.ok.clip) (Sl (Co (S:=S) hw 0 O (At.new hn_cp_c))));rw [(Cz h2).1,(Cz h2).2,hE] at h9;exact h9)) O (AL O (AD (AK (v:=(aG ([(vN a),(vN b),(vN p),(vN q),(vN c),(vN d)]))) O O) O (AD (AK (v:=(qa true)) O O) O (al Lh O λb4=>Ag O sizeOf157 O (asg' O (q3 (sL [3,6,7,8,10,11] O) (AL O (AD (BK (c:=false) O O) O (AL O (BM (v:=(aG ([(vN a),(vN b),(vN p),(vN q),(vN c),(vN d)]))) O (Aj (i:=0) (vs:=[(vN a),(vN b),(vN p),(vN q),(vN c),(vN d)]) O O G9.a G9.s O O) ?_))))))))))
 refine BM (v:=(aG ([(qz cp.a.p ps.length ps.length),(qz cp.b.p ts.length ts.length),(qz cp.c.p ss.length ss.length)]))) O (Aj (i:=6) (vs:=[(qz cp.a.p ps.length ps.length),(qz cp.b.p ts.length ts.length),(qz cp.c.p ss.length ss.length)]) O O Bz.a Bz.s O O) (yX (v:=qa true) (α:=Unit) (K:=λ_=>True) (LO:=λ_=>[AX b4 157 ([(vN a),(vN b),(vN p),(vN q),(vN c),(vN d)]),AF cp.c.p (rowsL BP ss),rowW cp.b.p 105 3 ts.length cp.b.c (rowsL Ac (I4 ts a b p q c d)),AF cp.a.p (rowsL AZ ps),AX b3 49 ([(vN a),(vN b),(vN p),(vN q)]),AX b2 30 ([jj,jj,jj]),AX b1 30 ([(qz cp.a.p ps.length ps.length),(qz cp.b.p ts.length ts.length),(qz cp.c.p ss.length ss.length)]),AF x.a.p (rowsL AZ ps),AF x.b.p (rowsL Ac ts),AF x.c.p (rowsL BP ss)]) (Ab O) (Df (args:=[(aG ([(vN a),(vN b),(vN p),(vN q),(vN c),(vN d)])),(aG ([(qz cp.a.p ps.length ps.length),(qz cp.b.p ts.length ts.length),(qz cp.c.p ss.length ss.length)]))]) (caps:=[]) (all:=[(aG ([(vN a),(vN b),(vN p),(vN q),(vN c),(vN d)])),(aG ([(qz cp.a.p ps.length ps.length),(qz cp.b.p ts.length ts.length),(qz cp.c.p ss.length ss.length)]))]) O O O call84) (DS [2,3,0,1,4,5,6,7,8,9] (show List.Perm [2,3,0,1,4,5,6,7,8,9] (List.range 10) by decide) O) (λw hw=>(NT ps ts a b p q c d h2a h2b h2c h2d h2.pl h2.ql hN htl hz cp.a.p cp.b.p cp.c.p ps.length cp.b.c ts.length ss.length ss.length cp.b.ok cp.b.ok.clip cp.a.ok.clip w (LR:=[AX b4 157 ([(vN a),(vN b),(vN p),(vN q),(vN c),(vN d)]),AF cp.c.p (rowsL BP ss),AX b3 49 ([(vN a),(vN b),(vN p),(vN q)]),AX b2 30 ([jj,jj,jj]),AX b1 30 ([(qz cp.a.p ps.length ps.length),(qz cp.b.p ts.length ts.length),(qz cp.c.p ss.length ss.length)]),AF x.a.p (rowsL AZ ps),AF x.b.p (rowsL Ac ts),AF x.c.p (rowsL BP ss)]) hw).mono λe w' ⟨h1,t,h3,h4⟩=>(by rw [Og hB] at h4;exact ⟨by rw [h1,hB],t,h3,h4.perm (DS [2,3,0,1,4,5,6,7,8,9] (show List.Perm [2,3,0,1,4,5,6,7,8,9] (List.range 10) by decide) O)⟩)) (λd hd=>by cases hd<;>exact (BA O)) λ_ _=>BM (v:=(qa false)) O (BK (c:=false) O O) (AD (v:=(qa false)) (AQ O O) O (oNl' (zB (sL [3,6,7,8,10,37] O) (zA (zT O (zC (q2 (Al 6 Bz O (zz 2 O cp.b.ok (by rw [AS Aq,K1]) O O λhn_cp_b=>?_))))))))))
 exact F8 5 (off:=0) (vs:=[(qz cp.a.p ps.length ps.length),(qz cp.b.p ts.length ts.length),(qz cp.c.p ss.length ss.length)]) (cs':=[(qz cp.a.p ps.length ps.length),(qz cp.b.p ts.length ts.length),(qz cp.c.p ss.length ss.length)]) (AI O) O sizeOf30 O (asg' O (oNl' (zB (sL [3,6,7,8,10] O) (zA (zF (Bu O (Ao (i:=5) (cs:=[(qz cp.a.p ps.length ps.length),(qz cp.b.p ts.length ts.length),(qz cp.c.p ss.length ss.length)]) O O isAgg30 sizeOf30 O) (rd_tmp (v:=(vI 0)) O) (λw hw=>(Zt hw (a:=(⟨(⟨⟨cp.a.p,ps.length,cp.a.ok.clip⟩,⟨cp.b.p,ts.length,(K1 (ts:=ts) (a:=a) (b:=b) (p:=p) (q:=q) (c:=c) (d:=d)).symm▸cp.b.ok.clip⟩,⟨cp.c.p,ss.length,cp.c.ok.clip⟩⟩:MN ps (I4 ts a b p q c d) ss)⟩:TB ps (I4 ts a b p q c d) ss 0)) (Uq hw [3,2,1] O (At.mn (At.new hn_cp_a) (At.new hn_cp_b) (At.new hn_cp_c))) (by show _=Value.tuple #[aG [.slice cp.a.p ps.length ps.length,.slice cp.b.p (I4 ts a b p q c d).length ts.length,.slice cp.c.p ss.length ss.length],vN 0];rw [K1];rfl)))))))))
theorem Ww {ps:List Pt} {ts:List T3} {ss:List Z3} (x:MN ps ts ss) (u v:Int) (hnb:Be ps.length ts=true) (htl:ts.length<=1000000) (hN:ps.length<=1000000) (hsl:ss.length<=1000000) (hz:∀i,Bc (cor ps i)<=200000) (w:World) {S:Nat->Prop} (hx:Ro S w x):Calls prog 28 #[(aG (CR x)),(vI u),(vI v)] w (Bf (TB (XX ps ts u v) (XZ ps ts u v) (XY ps ts ss u v) (Wh ps ts u v)) S w):=by
 rcases (by omega:Gp ts u v<0\/0<=Gp ts u v) with h|h
 ·have h1:=UY (ps:=ps) h
  rw [(IS (ss:=ss) h1.1).1,(IS (ss:=ss) h1.1).2.1,(IS (ss:=ss) h1.1).2.2,h1.2]
  exact TO x u v hnb htl hN hsl h w hx
 ·by_cases hb:Ci (Dl ts u v)=true
  ·obtain ⟨g1,g2⟩:=E2.1 hb
   obtain ⟨p,q,c,d,h2⟩:=IA hnb Z (HK h) g1 g2
   have e1:=XW h h2
   cases hB:GK ps (Dl ts u v).a (Dl ts u v).b c d with
   | false =>
    rw [hB] at e1
    rw [(IS (ss:=ss) e1.1).1,(IS (ss:=ss) e1.1).2.1,(IS (ss:=ss) e1.1).2.2,UZ h,e1.1]
    exact TQ x u v hnb htl hN hsl hz h _ _ p q c d h2 h2.mk4 hB w hx
   | true =>
    rw [hB] at e1
    rw [(Po (ss:=ss) e1.1).1,(Po (ss:=ss) e1.1).2.1,(Po (ss:=ss) e1.1).2.2,UZ h,e1.1,e1.2]
    exact TR x u v hnb htl hN hsl hz h _ _ p q c d h2 h2.mk4 hB w hx
  ·rw [Bool.not_eq_true] at hb
   have h1:=XV (ps:=ps) h hb
   rw [(IS (ss:=ss) h1.1).1,(IS (ss:=ss) h1.1).2.1,(IS (ss:=ss) h1.1).2.2,h1.2]
   exact TP x u v hnb htl hN hsl h hb w hx
end
section
def Jv (p:Pt):Rat:=CK (p-(⟨0,0⟩:Pt)) (p-(⟨0,0⟩:Pt))
def Z9 (ps:List Pt) (t:T3):Rat:=Jv (cor ps t.1)+Jv (cor ps t.2.1)+Jv (cor ps t.2.2)
def SJ (ps:List Pt) (t:T3):Rat:=WN ps t*Z9 ps t
def Jq (ps:List Pt) (ts:List T3):Nat->Rat
  | 0=>0
  | i+1=>Jq ps ts i+SJ ps (ts.getD i (0,0,0))
def I7 (ps:List Pt) (ts:List T3):Rat:=Jq ps ts ts.length*(((1:Int):Rat)/((3:Int):Rat))
theorem JN {p:Pt} (h:Bc p<=1000):Sz (Jv p)<=4100:=by
  have h1:=D7 p (⟨0,0⟩:Pt)
  have h2:=KX (p-(⟨0,0⟩:Pt)) (p-(⟨0,0⟩:Pt))
  have h3:Bc (⟨0,0⟩:Pt)<=10:=by decide +kernel
  unfold Jv;omega
section
variable {ps:List Pt} (hz:∀k,Bc (cor ps k)<=1000)
include hz
theorem V7 (t:T3):Sz (Z9 ps t)<=12302:=by
  have h1:=JN (hz t.1)
  have h2:=JN (hz t.2.1)
  have h3:=JN (hz t.2.2)
  have h4:=Dx (Jv (cor ps t.1)) (Jv (cor ps t.2.1))
  have h5:=Dx (Jv (cor ps t.1)+Jv (cor ps t.2.1)) (Jv (cor ps t.2.2))
  unfold Z9;omega
theorem RA (t:T3):Sz (SJ ps t)<=20311:=by
  have h1:=RZ hz t
  have h2:=V7 hz t
  have h3:=Cv (WN ps t) (Z9 ps t)
  unfold SJ;omega
theorem Ni (ts:List T3):∀i,Sz (Jq ps ts i)<=2+i*20312
  | 0=>by show Sz (0:Rat)<=2+0*20312;decide +kernel
  | i+1=>by
    have h:=Ni ts i
    have h1:=RA hz (ts.getD i (0,0,0))
    have h4:=Dx (Jq ps ts i) (SJ ps (ts.getD i (0,0,0)))
    show Sz (Jq ps ts i+SJ ps (ts.getD i (0,0,0)))<=_
    omega
end
theorem VP {ps:List Pt} {ts:List T3} (h:H1 ps ts=false):FR ps ts=ts:=by
  unfold H1 at h
  unfold FR
  split
  · rfl
  · rename_i h1
    rw [if_neg h1] at h
    exact KD h
structure aW (ps:List Pt) (ts:List T3) (ss:List Z3) (n e:Nat) where
  x:MN ps ts ss
instance {ps:List Pt} {ts:List T3} {ss:List Z3} {n e:Nat}:C4 (aW ps ts ss n e):=⟨λr=>.tuple #[aG (CR r.x),vN n,vN e],λr=>[r.x.a.row,r.x.b.row,r.x.c.row],λr y hy=>VD hy⟩
theorem VJ {ps:List Pt} {ts ss:List T3} (x:MX ps ts ss):∃y:MN ps ts (ss.map Eg),CR y=Dj x/\∀{S:Nat->Prop} {w:World},Ro S w x->Ro S w y:=by
  obtain ⟨a,b,⟨cp,cc,cok⟩⟩:=x
  have hk:ss.length=(ss.map Eg).length:=(xK _).symm
  refine ⟨⟨a,b,⟨cp,cc,hk▸cok⟩⟩,?_,λ{S w} h y hy=>?_⟩
  · show [a.val,b.val,qz cp (ss.map Eg).length cc]=[a.val,b.val,qz cp ss.length cc]
    rw [xK]
  · have hy:y∈[a.row,b.row,AF cp (rowsL BP (ss.map Eg))]:=hy
    rw [<-F5] at hy
    exact h y hy
def BN:List Pt:=[⟨0,0⟩,⟨2,-1⟩,⟨4,0⟩,⟨2,1⟩]
def Cp:List T3:=[(0,1,2),(0,2,3)]
def Ae:List T3:=[(1,2,3),(0,1,3)]
def I6:List T3:=[(0,1,0),(0,3,0),(1,2,0),(2,3,0)]
def CI:List Z3:=I6.map Eg
theorem Nh (i:Nat):Bc (cor BN i)<=1000:=Z_ (by decide +kernel) (by decide +kernel) i
theorem IW (i:Nat):Bc (cor BN i)<=200000:=xM (Nh i) jY
theorem Zb:∀i,i<Cp.length->∀k,k<i->(!Eb (Bn BN (Cp.getD i (0,0,0))) (Bn BN (Cp.getD k (0,0,0)))&&!Eb (Bn BN (Cp.getD k (0,0,0))) (Bn BN (Cp.getD i (0,0,0))))=false:=by decide +kernel
theorem Zc:∀i,i<Cp.length->∀p,p<BN.length->CO (Cp.getD i (0,0,0)) p=false->Lv BN (cor BN p) (Cp.getD i (0,0,0))=0:=by decide +kernel
theorem Xq:It BN Cp I6:=by
  refine ⟨by decide,by decide,by decide,by decide,Nh,by decide +kernel,by decide +kernel,by decide +kernel,λp hp=>?_,by decide +kernel,λi k hi hk=>Zb i hi k hk,λi p hi hp=>Zc i hi p hp,by decide +kernel,by decide +kernel⟩
  have hp:p<4:=hp
  have e:p=0\/p=1\/p=2\/p=3:=by omega
  rcases e with rfl|rfl|rfl|rfl
  · exact ⟨0,by decide,by decide +kernel⟩
  · exact ⟨0,by decide,by decide +kernel⟩
  · exact ⟨0,by decide,by decide +kernel⟩
  · exact ⟨1,by decide,by decide +kernel⟩
theorem K_:Be BN.length Cp=true:=by decide +kernel
theorem Uy:Be BN.length Ae=true:=by decide +kernel
theorem Ux:Mn BN Cp 2 0=false/\Wl Cp 2 0=0:=by decide +kernel
theorem Zf:XX BN Cp 0 2=BN/\XZ BN Cp 0 2=Ae/\XY BN Cp CI 0 2=CI/\Wh BN Cp 0 2=0:=by decide +kernel
theorem Zd:XX BN Cp 0 1=[]/\XZ BN Cp 0 1=[]/\XY BN Cp CI 0 1=[]/\Wh BN Cp 0 1=7:=by decide +kernel
theorem Ze:XX BN Cp 1 3=[]/\XZ BN Cp 1 3=[]/\XY BN Cp CI 1 3=[]/\Wh BN Cp 1 3=1:=by decide +kernel
theorem Pw:H1 BN Cp=true/\FR BN Cp=Ae/\H1 BN Ae=false:=by decide +kernel
theorem Pu:I7 BN Cp=28:=by decide +kernel
theorem Pv:I7 BN Ae=24:=by decide +kernel
theorem Zk {ps:List Pt} {ts ss:List T3} (x:MX ps ts ss):∃y:MN ps ts (ss.map Eg),CR y=Dj x/\(∀{S:Nat->Prop} {w:World},Ro S w x->Ro S w y)/\∀{S:Nat->Prop} {w:World},Ro S w y->Ro S w x:=by
  obtain ⟨a,b,⟨cp,cc,cok⟩⟩:=x
  have hk:ss.length=(ss.map Eg).length:=(xK _).symm
  refine ⟨⟨a,b,⟨cp,cc,hk▸cok⟩⟩,?_,λ{S w} h y hy=>?_,λ{S w} h y hy=>?_⟩
  · show [a.val,b.val,qz cp (ss.map Eg).length cc]=[a.val,b.val,qz cp ss.length cc]
    rw [xK]
  · have hy:y∈[a.row,b.row,AF cp (rowsL BP (ss.map Eg))]:=hy
    rw [<-F5] at hy
    exact h y hy
  · have hy:y∈[a.row,b.row,AF cp (rowsL Ac ss)]:=hy
    rw [F5 ss] at hy
    exact h y hy
end
end Go.Proofs.YtpolhpjiahbidaaGreatDoor
