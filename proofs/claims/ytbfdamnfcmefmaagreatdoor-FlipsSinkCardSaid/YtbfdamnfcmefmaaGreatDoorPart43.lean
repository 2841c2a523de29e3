import Derived.Test.YtbfdamnfcmefmaaGreatDoorTie
import Derived.Test.YtbfdamnfcmefmaaGreatDoorCards
import Derived.ProofKit
import Derived.LaidMore
import Derived.Carry
import Derived.Stop.Joined
import Derived.SevenTiedAt
import Derived.Test.YtbfdamnfcmefmaaGreatDoorPart16
namespace Go.Proofs.YtbfdamnfcmefmaaGreatDoor
open Go Go.RowKit Go.Proofs.Tryz
open Go.Value renaming slice→qz,bool→qa
set_option linter.unusedVariables false
set_option linter.unusedSimpArgs false
section
open Go Go.RowKit Go.ChangeShapes Go.WideShapes Go.ChangeAt
theorem YF:laidOutB Tryz.prog=true:=by kernel_rfl
theorem V6:ownKnob Tryz.prog.godebug=none:=by kernel_rfl
theorem Hs {H:Type} {enc:TypeId×Value->H} {P:Program} (hl:laidOutB P=true) {W W':World} {sp:Nat->Bool} (hb:Below W.heap.size W W') :
    ∀{ts:List TypeId} {vs:List Value} {ds:List (DataW H)} {ps:List MemPlace},(∀t∈ts,P.readableRec t=true/\t<P.types.size)->DataW.TrodAll enc P W 0 (λ_=>true) true ts vs ds ps ->
      (∀p∈ps,p.block<W.heap.size)->(∀p∈ps,sp p.block=true)->DataW.TrodAll enc P W' 0 sp true ts vs ds ps
  | [],_,_,_,_,h,_,_=>by
    obtain ⟨rfl,rfl,rfl⟩:=trodAll_nil h
    exact trodAll_mk0
  | t::ts,_,_,_,hr,h,hlt,hs=>by
    obtain ⟨v,vs1,d,ds1,a,b,rfl,rfl,rfl,h1,h2⟩:=trodAll_cons h
    exact ⟨a,b,WideElems.Trod_stays hl (hr t jX).1 (hr t jX).2 h1 (λx hx=>hb.same (hlt x (by simp [hx]))) (λx hx=>hs x (by simp [hx])),
      Hs hl hb (λu hu=>hr u (by simp [hu])) h2 (λp hp=>hlt p (by simp [hp])) (λp hp=>hs p (by simp [hp])),rfl⟩
theorem VU {H:Type} {enc:TypeId×Value->H} {P:Program} {f:Func} {s:ChangeSpec} {apart fresh handsOn again:Bool} {W W':World} {args:Array Value} {ds:List (DataW H)} {CO:List MemPlace} {tb:TypeId}
    (hW:DataW.Whole enc P f.params.toList s.vars apart W args.toList ds [] CO) (hv:s.vars=[]) (hfn:s.fn H ds=({ results:=[.lit (.bool true)],args:=ds }:Left H))
    (hrt:f.resultTypes=#[tb]) (hu:P.underlying tb=some .bool) (hb:Below W.heap.size W W') (hl:laidOutB P=true) (hr:∀t∈f.params.toList,P.readableRec t=true/\t<P.types.size) :
    s.post enc P f apart fresh handsOn again W args (.bool true) W':=by
  have hlt:∀p∈CO,p.block<W.heap.size:=λp hp=>hW.lt p hp
  have hW2:=hW
  obtain ⟨pa,q,hA,hV,he,hz,hn⟩:=hW2
  rw [hv] at hV
  obtain ⟨_,rfl⟩:=trodVars_none hV
  simp only [List.append_nil] at he
  subst he
  have hres:∀(b:Nat) (sp:Nat->Bool) (hd:Bool),DataW.TrodAll enc P W' b sp hd f.resultTypes.toList ((qa true).resultList f.resultTypes.size) (s.fn H (ds++[])).results []:=λb sp hd=>by
    rw [hrt,List.append_nil,hfn]
    exact trodAll_mk1 (shut_bool hu _)
  have hargs:∀sp:Nat->Bool,(∀p∈CO,sp p.block=true)->DataW.TrodAll enc P W' 0 sp true f.params.toList args.toList (s.fn H (ds++[])).args CO:=λsp hs=>by
    rw [List.append_nil,hfn]
    exact Hs hl hb hr hA hlt hs
  have hvars:∀sp:Nat->Bool,DataW.TrodVars enc P W' sp s.vars (s.fn H (ds++[])).vars []:=λsp=>by
    rw [List.append_nil,hfn,hv];rfl
  have hold:∀p∈CO,(λb=>decide (b<W.heap.size)) p.block=true:=λp hp=>by simpa using hlt p hp
  refine ⟨ds,[],CO,[],CO,[],hW,hres _ _ _,hargs _ hold,hvars _,World.keptBut_mono (λp hp=>⟨hp,Or.inr (by simpa using hp)⟩) (hb.frame (·∈CO)),λ_=>⟨?_,_,_,([]++CO)++[],⟨[]++CO,[],trodAll_append (hargs _ (λ_ _=>rfl)) (hres _ _ _),hvars _,rfl,?_,?_⟩,?_⟩⟩
  · exact ok_one hrt O (okWide_bool_mk hu _)
  · intro b off hp
    have hp':MemPlace.cell b off∈CO:=by simpa using hp
    rw [hb.frozen (hlt _ hp')]
    exact hz b off hp'
  · intro ha
    have:=hn ha
    simpa using this
  · intro p hp _
    simpa using hp
end
section
open Go Go.RowKit Go.WideShapes
section
variable {P:Program} {w:World} {r:Reach} {base:Nat}
theorem D1 {u:TypeId} {v:Value} {k:IntKind} (hu:P.underlying u=some (.int k)) (h:Cell.okWide P w r base u v):∃n,v=.int k n/\k.has n:=by
  simp only [Cell.okWide,hu] at h
  unfold Cell.ok at h
  rw [hu] at h
  cases v<;>simp at h
  exact ⟨_,by rw [h.1],h.2⟩
theorem P7 {u e:TypeId} {v:Value} (hu:P.underlying u=some (.slice e)) (h:Cell.okWide P w r base u v) :
    v=.slice none 0 0\/∃a len cap,v=.slice (some a) len cap/\len<=cap/\a.spot=none/\∃cur T fr,w.heap[a.block]?=some (.cells cur T fr):=by
  simp only [Cell.okWide,hu] at h
  unfold Cell.ok at h
  rw [hu] at h
  cases v with
  | slice p len cap =>
    cases p with
    | none =>
      left
      split at h<;>simp_all
    | some a =>
      right
      have h':len<=cap/\(cap:Int)<=IntKind.i64.max/\w.has P r base a e cap:=h
      obtain ⟨h1,_,_,h2,row,cells,h3,_⟩:=h'
      refine ⟨a,len,cap,rfl,h1,h2,?_⟩
      unfold World.shape? at h3
      split at h3
      · rename_i cur T fr e;exact ⟨cur,T,fr,e⟩
      · cases h3
  | _=>simp at h
theorem N5 {n:Int} (h:IntKind.i8.has n):-128<=n/\n<=127:=by
  simp only [IntKind.has,IntKind.min,IntKind.max,IntKind.bits,IntKind.signed] at h;simp at h;omega
theorem aw {n:Int} (h:IntKind.u8.has n):0<=n/\n<256:=by
  simp only [IntKind.has,IntKind.min,IntKind.max,IntKind.bits,IntKind.signed] at h;simp at h;omega
theorem MA {n:Int} (h:IntKind.u8.has n):∃m:Nat,n=(m:Int)/\m<256:=by
  have:=aw h
  exact ⟨n.toNat,Z,Z⟩
theorem Y7 {n:Int} (h:IntKind.u16.has n):0<=n/\n<65536:=by
  simp only [IntKind.has,IntKind.min,IntKind.max,IntKind.bits,IntKind.signed] at h;simp at h;omega
theorem XU {t:TypeId} {v:Value} (ht:P.underlying t=some (.int .u16)) (h:Value.okWide P w r base t v):∃m:Nat,v=.int .u16 (m:Nat)/\m<65536:=by
  have h1:Cell.okWide P w r base t v:=by unfold Value.okWide at h;rw [ht] at h;exact h
  obtain ⟨n,rfl,hn⟩:=D1 ht h1
  have:=Y7 hn
  exact ⟨n.toNat,by congr 1;omega,Z⟩
theorem Ow {f:Nat->Option Value}:∀(len:Nat),(∀i,i<len->∃m:Nat,f i=some (.int .u8 (m:Nat))/\m<256)->∃l:List Nat,l.length=len/\(∀x∈l,x<256)/\∀i,i<len->f i=(Ct l)[i]?
  | 0,_=>⟨[],rfl,(λx h=>by cases h),λi h=>absurd h (Nat.not_lt_zero _)⟩
  | n+1,h=>by
    obtain ⟨l,h1,h2,h3⟩:=Ow n λi hi=>h i Z
    obtain ⟨m,h4,h5⟩:=h n Z
    refine ⟨l++[m],by simp [h1],λx hx=>?_,λi hi=>?_⟩
    · rcases List.mem_append.1 hx with hx|hx
      · exact h2 x hx
      · rcases xP.1 hx with rfl;exact h5
    · rcases Nat.lt_or_ge i n with h6|h6
      · rw [h3 i h6];simp [Ct,List.getElem?_append,h1,h6]
      · obtain rfl:i=n:=by omega
        rw [h4];simp [Ct,List.getElem?_append,h1]
theorem QW {cur:Array Value} {T:TypeId} {fr:Nat×Nat} {off len:Nat} {l:List Nat} (hl:l.length=len) (h:∀i,i<len->cur[off+i]?=(Ct l)[i]?):Hh off (Ct l) (.cells cur T fr):=by
  have hb:(Ct l).length=len:=by simp [Ct,hl]
  refine ⟨cur,T,fr,rfl,List.ext_getElem? λi=>?_⟩
  rw [List.getElem?_take,hb]
  split
  · rename_i hi
    rw [List.getElem?_drop,Array.getElem?_toList,h i hi]
  · rw [List.getElem?_eq_none Z]
theorem bS {H:Type} {enc:TypeId×Value->H} {W:World} {sp:Nat->Bool} {hd:Bool} {t ts e a0 a1 a2 a3 a4 a5 a6 a7:TypeId} {v:Value} {d:DataW H} {ps:List MemPlace} {fs:Array Field} (ht:P.underlying t=some (.struct fs)) (hf:∃f,fs[2]?=some f/\f.type=ts/\f.offset=2)
    (hts:P.underlying ts=some (.slice e)) (h1:P.cellsOf ts=1) (he:P.underlying e=some (.int .u8)) (h1e:P.cellsOf e=1) (hct:P.cellTypes P.depth t=some [a0,a1,ts,a2,a3,a4,a5,a6,a7]) (hsz:P.cellsOf t=9)
    (hk:[a0,a1,a2,a3,a4,a5,a6,a7].map P.underlying=[IntKind.u8,.u8,.i8,.i8,.i8,.i8,.u8,.u8].map (λk=>some (.int k)))
    (hv:Value.okWide P W r base t v) (hT:DataW.Trod enc P W 0 sp hd t v d ps):∃m:MQ,v=aG (Ef m)/\Ro (λ_=>True) W m:=by
  unfold Value.okWide at hv
  rw [ht] at hv
  obtain ⟨⟨cs⟩,rfl,hs,ts',hts',_,hc⟩:=hv
  obtain rfl:=Option.some.inj (hct.symm.trans hts')
  have hl:cs.length=9:=by rw [<-hsz,<-hs];simp
  match cs,hl,hc,hT with
  | [c0,c1,c2,c3,c4,c5,c6,c7,c8],_,hc,hT =>
    simp only [List.map_cons,List.map_nil,List.cons.injEq,and_true] at hk
    obtain ⟨k0,k1,k2,k3,k4,k5,k6,k7⟩:=hk
    have g:∀(i:Nat) (u:TypeId) (v:Value),i<9->[a0,a1,ts,a2,a3,a4,a5,a6,a7][i]?=some u->[c0,c1,c2,c3,c4,c5,c6,c7,c8][i]?=some v->Cell.okWide P W r base u v:=λi u v hi hu hv=>by
      obtain ⟨u',h2,h3⟩:=hc i v (by simpa using hv)
      rw [Nat.mod_eq_of_lt (by simpa using hi),hu] at h2
      cases h2;exact h3
    obtain ⟨n0,rfl,b0⟩:=D1 k0 (g 0 _ _ jY rfl rfl)
    obtain ⟨n1,rfl,b1⟩:=D1 k1 (g 1 _ _ jY rfl rfl)
    obtain ⟨n2,rfl,b2⟩:=D1 k2 (g 3 _ _ jY rfl rfl)
    obtain ⟨n3,rfl,b3⟩:=D1 k3 (g 4 _ _ jY rfl rfl)
    obtain ⟨n4,rfl,b4⟩:=D1 k4 (g 5 _ _ jY rfl rfl)
    obtain ⟨n5,rfl,b5⟩:=D1 k5 (g 6 _ _ jY rfl rfl)
    obtain ⟨n6,rfl,b6⟩:=D1 k6 (g 7 _ _ jY rfl rfl)
    obtain ⟨n7,rfl,b7⟩:=D1 k7 (g 8 _ _ jY rfl rfl)
    obtain ⟨m0,rfl,e0⟩:=MA b0
    obtain ⟨m1,rfl,e1⟩:=MA b1
    obtain ⟨m6,rfl,e6⟩:=MA b6
    obtain ⟨m7,rfl,e7⟩:=MA b7
    have hsl:=P7 hts (g 2 _ _ jY rfl rfl)
    have key:∃(l:List Nat) (p:Option Addr) (cap:Nat),c2=.slice p l.length cap/\(∀x∈l,x<256)/\Aw p l.length cap/\Holds W (AP p (Ct l)):=by
      rcases hsl with rfl|⟨a,len,cap,rfl,hlc,hsp,cur,T,fr,hcur⟩
      · exact ⟨[],none,0,rfl,(λx h=>by cases h),⟨λ_=>⟨rfl,rfl⟩,(λa e=>by cases e),Nat.le_refl _⟩,λb e=>by cases e⟩
      · obtain ⟨fuel,hT⟩:=hT
        obtain ⟨xs,n,_,_,_,hxl,hx⟩:=DataW.trod_struct ht hT
        obtain ⟨f,hf1,rfl,hf3⟩:=hf
        have hx2:=hx 2 f hf1
        have hlt:2<xs.length:=by
          rw [hxl]
          rcases Nat.lt_or_ge 2 fs.size with h|h
          · exact h
          · rw [Array.getElem?_eq_none h] at hf1;cases hf1
        rw [hf3,h1,xQ hlt] at hx2
        rcases DataW.trod_slice hts hx2 with ⟨h2,_⟩|⟨a',len',cap',elems,rest,n',_,h2,_,_,_,_,hel,hes,_⟩
        · cases h2
        · obtain ⟨rfl,rfl,rfl⟩:a=a'/\len=len'/\cap=cap':=by
            have h3:[qz (some a) len cap]=[qz (some a') len' cap']:=h2
            simp only [List.cons.injEq,qz.injEq,Option.some.injEq,and_true] at h3
            exact h3
          have hbyte:∀i,i<len->∃m:Nat,cur[a.off+i]?=some (.int .u8 (m:Nat))/\m<256:=λi hi=>by
            have h3:=hes i hi
            rw [xQ Z,Option.bind_eq_some_iff] at h3
            obtain ⟨cs',h4,h5⟩:=h3
            obtain ⟨n,rfl,_,hwf⟩:=DataW.trod_int he h5
            rw [h1e,Nat.mul_one] at h4
            unfold World.cells? at h4
            rw [if_pos (xK _)] at h4
            have h6:=mapM_some_get h4 0 0 jX
            rw [List.getElem?_cons_zero] at h6
            have ha:a=⟨a.block,a.off,none⟩:=by rw [<-hsp]
            have h7:W.cell? ((a.add i).add 0)=some (Value.int IntKind.u8 n):=h6
            rw [ha,add_plain,add_plain,Nat.add_zero] at h7
            unfold World.cell? at h7
            simp only [hcur] at h7
            have h8:IntKind.u8.has n:=by
              have h9:(decide (IntKind.u8.min<=n)&&decide (n<=IntKind.u8.max))=true:=hwf
              rw [yz,xW,xW] at h9
              exact h9
            obtain ⟨m,rfl,hm⟩:=MA h8
            exact ⟨m,by simpa using h7,hm⟩
          obtain ⟨l,hl1,hl2,hl3⟩:=Ow len hbyte
          refine ⟨l,some a,cap,by rw [hl1],hl2,⟨(λe=>by cases e),(λa' e=>by cases e;exact hsp),Z⟩,λb e=>?_⟩
          have hb:a.block=b:=Option.some.inj e
          subst hb
          exact ⟨_,hcur,QW hl1 hl3⟩
    obtain ⟨l,p,cap,rfl,hl2,hok,hh⟩:=key
    exact ⟨⟨m0,m1,l,p,cap,n2,n3,n4,n5,m6,m7,e0,e1,N5 b2,N5 b3,N5 b4,N5 b5,e6,e7,hl2,hok⟩,rfl,λy hy=>by
      rcases xP.1 hy with rfl
      exact ⟨hh,λ_ _=>trivial⟩⟩
end
end
end Go.Proofs.YtbfdamnfcmefmaaGreatDoor
