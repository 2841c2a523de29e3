import Derived.OpenShut
import Derived.Test.YtcpkbjjmcleplaaGreatDoorPart45
namespace Go.Proofs.YtcpkbjjmcleplaaGreatDoor
open Go Go.RowKit Go.Proofs.Tryz
open Go.Value renaming slice→qz,bool→qa
set_option linter.unusedVariables false
set_option linter.unusedSimpArgs false
section
open Go Go.RowKit Go.WideShapes
section
variable {H:Type} {enc:TypeId×Value->H} {P:Program} {w:World} {base fuel:Nat} {sp:Nat->Bool} {hd:Bool} {t:TypeId} {cs:List Value} {x:DataW H×List MemPlace}
theorem FK {fs:Array Field} {i u o z:Nat} (ht:P.underlying t=some (.struct fs)) (hf:∃f,fs[i]?=some f/\f.type=u/\f.offset=o) (hz:P.cellsOf u=z) (h:DataW.trod enc P w base sp hd fuel t cs=some x) :
    ∃m y,DataW.trod enc P w base sp hd m u ((cs.drop o).take z)=some y:=by
  obtain ⟨xs,n,_,_,_,hxl,hx⟩:=DataW.trod_struct ht h
  obtain ⟨f,h1,rfl,rfl⟩:=hf
  have h2:=hx i f h1
  have hlt:i<xs.length:=by
    rw [hxl]
    rcases Nat.lt_or_ge i fs.size with k|k
    · exact k
    · rw [Array.getElem?_eq_none k] at h1;cases h1
  rw [xN hlt,hz] at h2
  exact ⟨n,_,h2⟩
theorem Lv {fs:Array Field} {z:Nat} (ht:P.underlying t=some (.struct fs)) (hz:P.cellsOf t=z) (h:DataW.trod enc P w base sp hd fuel t cs=some x):cs.length=z:=by
  obtain ⟨xs,n,_,_,hl,_,_⟩:=DataW.trod_struct ht h
  rw [hl,hz]
theorem HM {fs:Array Field} {k:IntKind} {i u o:Nat} (hu:P.underlying u=some (.int k)) (ht:P.underlying t=some (.struct fs)) (hf:∃f,fs[i]?=some f/\f.type=u/\f.offset=o) (hz:P.cellsOf u=1) (h:DataW.trod enc P w base sp hd fuel t cs=some x) :
    ∃n,(cs.drop o).take 1=[.int k n]/\(Lit.int k n).wf=true:=by
  obtain ⟨m,y,h1⟩:=FK ht hf hz h
  obtain ⟨n,h2,_,h3⟩:=DataW.trod_int hu h1
  exact ⟨n,h2,h3⟩
theorem VI {k:IntKind} {n:Int} (h:(Lit.int k n).wf=true):k.has n:=by
  have h9:(decide (k.min<=n)&&decide (n<=k.max))=true:=h
  rw [xZ,xT,xT] at h9
  exact h9
theorem Z4 {e:TypeId} (ht:P.underlying t=some (.array 3 e)) (he:P.underlying e=some (.int .i64)) (h1e:P.cellsOf e=1) (h3:P.cellsOf t=3) (h:DataW.trod enc P w base sp hd fuel t cs=some x):∃a:Z3,cs=BB a:=by
  obtain ⟨xs,m,_,_,hl,hxl,hx⟩:=DataW.trod_array ht h
  rw [h3] at hl
  have g:∀i,i<3->∃n,(cs.drop i).take 1=[.int .i64 n]:=λi hi=>by
    have h2:=hx i hi
    rw [xN Z,h1e,Nat.mul_one] at h2
    obtain ⟨n,h2,_,_⟩:=DataW.trod_int he h2
    exact ⟨n,h2⟩
  obtain ⟨a,ha⟩:=g 0 jY
  obtain ⟨b,hb⟩:=g 1 jY
  obtain ⟨c,hc⟩:=g 2 jY
  match cs,hl with
  | [c0,c1,c2],_ =>
    obtain rfl:c0=.int .i64 a:=by simpa using ha
    obtain rfl:c1=.int .i64 b:=by simpa using hb
    obtain rfl:c2=.int .i64 c:=by simpa using hc
    exact ⟨(a,b,c),rfl⟩
theorem Z6 {fs:Array Field} {e:TypeId} (ht:P.underlying t=some (.struct fs)) (f0:∃f,fs[0]?=some f/\f.type=e/\f.offset=0) (f1:∃f,fs[1]?=some f/\f.type=e/\f.offset=1) (f2:∃f,fs[2]?=some f/\f.type=e/\f.offset=2)
    (he:P.underlying e=some (.int .i64)) (h1e:P.cellsOf e=1) (h3:P.cellsOf t=3) (h:DataW.trod enc P w base sp hd fuel t cs=some x):∃a:Z3,cs=BB a:=by
  have hl:=Lv ht h3 h
  obtain ⟨a,ha,_⟩:=HM he ht f0 h1e h
  obtain ⟨b,hb,_⟩:=HM he ht f1 h1e h
  obtain ⟨c,hc,_⟩:=HM he ht f2 h1e h
  match cs,hl with
  | [c0,c1,c2],_ =>
    obtain rfl:c0=.int .i64 a:=by simpa using ha
    obtain rfl:c1=.int .i64 b:=by simpa using hb
    obtain rfl:c2=.int .i64 c:=by simpa using hc
    exact ⟨(a,b,c),rfl⟩
theorem ZY {fs:Array Field} {e u:TypeId} (ht:P.underlying t=some (.struct fs)) (f0:∃f,fs[0]?=some f/\f.type=e/\f.offset=0) (f1:∃f,fs[1]?=some f/\f.type=u/\f.offset=1)
    (he:P.underlying e=some (.int .i64)) (h1e:P.cellsOf e=1) (hu:P.underlying u=some (.int .u32)) (h1u:P.cellsOf u=1) (h2:P.cellsOf t=2) (h:DataW.trod enc P w base sp hd fuel t cs=some x):∃q:QD,q.ok/\cs=IE q:=by
  have hl:=Lv ht h2 h
  obtain ⟨a,ha,wa⟩:=HM he ht f0 h1e h
  obtain ⟨b,hb,wb⟩:=HM hu ht f1 h1u h
  match cs,hl with
  | [c0,c1],_ =>
    obtain rfl:c0=.int .i64 a:=by simpa using ha
    obtain rfl:c1=.int .u32 b:=by simpa using hb
    have k1:=Rk (VI wa)
    have k2:=SR (VI wb)
    refine ⟨⟨a,b.toNat⟩,⟨k1.1,k1.2,by show b.toNat<_;omega⟩,?_⟩
    simp only [IE]
    rw [Int.toNat_of_nonneg k2.1]
theorem bj {fs gs:Array Field} {q e u:TypeId} (ht:P.underlying t=some (.struct fs)) (f0:∃f,fs[0]?=some f/\f.type=q/\f.offset=0) (f1:∃f,fs[1]?=some f/\f.type=q/\f.offset=2) (hq:P.underlying q=some (.struct gs)) (g0:∃f,gs[0]?=some f/\f.type=e/\f.offset=0) (g1:∃f,gs[1]?=some f/\f.type=u/\f.offset=1)
    (he:P.underlying e=some (.int .i64)) (h1e:P.cellsOf e=1) (hu:P.underlying u=some (.int .u32)) (h1u:P.cellsOf u=1) (h2:P.cellsOf q=2) (h4:P.cellsOf t=4) (h:DataW.trod enc P w base sp hd fuel t cs=some x):∃p:PD,p.ok/\cs=Cn p:=by
  have hl:=Lv ht h4 h
  obtain ⟨m,y,k1⟩:=FK ht f0 h2 h
  obtain ⟨m2,y2,k2⟩:=FK ht f1 h2 h
  obtain ⟨a,ha,ea⟩:=ZY hq g0 g1 he h1e hu h1u h2 k1
  obtain ⟨b,hb,eb⟩:=ZY hq g0 g1 he h1e hu h1u h2 k2
  refine ⟨⟨a,b⟩,⟨ha,hb⟩,?_⟩
  show cs=IE a++IE b
  rw [<-ea,<-eb,List.drop_zero,List.take_of_length_le (l:=cs.drop 2) (by simp [hl]),List.take_append_drop]
theorem SG {α:Type} {en:α->List Value} {ok:α->Prop} {z:Nat} {L:List Value}:∀len,(∀i,i<len->∃a,ok a/\(L.drop (i*z)).take z=en a)->∃l:List α,l.length=len/\(∀a∈l,ok a)/\L.take (len*z)=rowsL en l
  | 0,_=>⟨[],rfl,(λa h=>by cases h),by simp [rowsL]⟩
  | n+1,h=>by
    obtain ⟨l,h1,h2,h3⟩:=SG n λi hi=>h i Z
    obtain ⟨a,h4,h5⟩:=h n Z
    refine ⟨l++[a],by simp [h1],λy hy=>?_,?_⟩
    · rcases List.mem_append.1 hy with hy|hy
      · exact h2 y hy
      · rcases xM.1 hy with rfl;exact h4
    · rw [Nat.succ_mul,List.take_add,h3,h5,BM];simp [rowsL]
theorem Jb {α:Type} {en:α->List Value} {ok:α->Prop} {W:World} {r:Reach} {z b0:Nat} {ts e:TypeId} {c:Value} {y:DataW H×List MemPlace} (hts:P.underlying ts=some (.slice e)) (hz:P.cellsOf e=z) (hlen:∀a,(en a).length=z)
    (hdec:∀fuel cs x,DataW.trod enc P W 0 sp hd fuel e cs=some x->∃a:α,ok a/\cs=en a) (hok:Cell.okWide P W r b0 ts c) (hT:DataW.trod enc P W 0 sp hd fuel ts [c]=some y) :
    ∃(l:List α) (p:Option Addr) (cap:Nat),c=.slice p l.length cap/\(∀a∈l,ok a)/\BI p l.length cap/\Holds W (AI p (rowsL en l)):=by
  rcases QB hts hok with rfl|⟨a,len,cap,rfl,hlc,hsp,cur,T,fr,hcur⟩
  · exact ⟨[],none,0,rfl,(λx h=>by cases h),⟨λ_=>⟨rfl,rfl⟩,(λa e=>by cases e),Nat.le_refl _⟩,λb e=>by cases e⟩
  · rcases DataW.trod_slice hts hT with ⟨h2,_⟩|⟨a',len',cap',elems,rest,n',_,h2,_,_,_,_,hel,hes,_⟩
    · cases h2
    · obtain ⟨rfl,rfl,rfl⟩:a=a'/\len=len'/\cap=cap':=by
        simp only [List.cons.injEq,qz.injEq,Option.some.injEq,and_true] at h2
        exact h2
      have ha:a=⟨a.block,a.off,none⟩:=by rw [<-hsp]
      have hel2:∀i,i<len->∃u:α,ok u/\((cur.toList.drop a.off).drop (i*z)).take z=en u:=λi hi=>by
        have h3:=hes i hi
        rw [xN Z,Option.bind_eq_some_iff] at h3
        obtain ⟨cs',h4,h5⟩:=h3
        obtain ⟨u,hu,rfl⟩:=hdec _ _ _ h5
        refine ⟨u,hu,?_⟩
        unfold World.cells? at h4
        rw [if_pos (xH _),hz] at h4
        refine List.ext_getElem? λj=>?_
        by_cases hj:j<z
        · have h6:=mapM_some_get h4 j j (by simp [hj])
          rw [ha,add_plain,add_plain] at h6
          unfold World.cell? at h6
          simp only [hcur] at h6
          rw [List.getElem?_take_of_lt hj,List.getElem?_drop,List.getElem?_drop,Array.getElem?_toList,<-h6]
          simp [Nat.add_assoc]
        · rw [List.getElem?_eq_none (by simp;omega),List.getElem?_eq_none (by rw [hlen];omega)]
      obtain ⟨l,hl1,hl2,hl3⟩:=SG len hel2
      refine ⟨l,some a,cap,by rw [hl1],hl2,⟨(λe=>by cases e),(λa' e=>by cases e;exact hsp),Z⟩,λb e=>?_⟩
      have hb:a.block=b:=Option.some.inj e
      subst hb
      exact ⟨_,hcur,cur,T,fr,rfl,by rw [AV hlen,hl1];exact hl3⟩
theorem ba {W:World} {r:Reach} {b0:Nat} {v:Value} {d:DataW H} {ps:List MemPlace} {fs gp gq gs:Array Field} {t0 t1 t2 p q i64 u32 a3 sd:TypeId} (ht:P.underlying t=some (.struct fs))
    (f0:∃f,fs[0]?=some f/\f.type=t0/\f.offset=0) (f1:∃f,fs[1]?=some f/\f.type=t1/\f.offset=1) (f2:∃f,fs[2]?=some f/\f.type=t2/\f.offset=2) (h0:P.underlying t0=some (.slice p)) (h1:P.underlying t1=some (.slice a3)) (h2:P.underlying t2=some (.slice sd))
    (c0:P.cellsOf t0=1) (c1:P.cellsOf t1=1) (c2:P.cellsOf t2=1) (hp:P.underlying p=some (.struct gp)) (p0:∃f,gp[0]?=some f/\f.type=q/\f.offset=0) (p1:∃f,gp[1]?=some f/\f.type=q/\f.offset=2) (hq:P.underlying q=some (.struct gq)) (q0:∃f,gq[0]?=some f/\f.type=i64/\f.offset=0) (q1:∃f,gq[1]?=some f/\f.type=u32/\f.offset=1)
    (hi:P.underlying i64=some (.int .i64)) (ci:P.cellsOf i64=1) (hu:P.underlying u32=some (.int .u32)) (cu:P.cellsOf u32=1) (cq:P.cellsOf q=2) (cp:P.cellsOf p=4) {it:TypeId} (ha:P.underlying a3=some (.array 3 it)) (hit:P.underlying it=some (.int .i64)) (cit:P.cellsOf it=1) (ca:P.cellsOf a3=3)
    (hs:P.underlying sd=some (.struct gs)) (s0:∃f,gs[0]?=some f/\f.type=it/\f.offset=0) (s1:∃f,gs[1]?=some f/\f.type=it/\f.offset=1) (s2:∃f,gs[2]?=some f/\f.type=it/\f.offset=2) (csd:P.cellsOf sd=3) (hct:P.cellTypes P.depth t=some [t0,t1,t2]) (hsz:P.cellsOf t=3)
    (hv:Value.okWide P W r b0 t v) (hT:DataW.Trod enc P W 0 sp hd t v d ps):∃m:RW,v=aG (Iy m)/\Ro (λ_=>True) W m:=by
  unfold Value.okWide at hv
  rw [ht] at hv
  obtain ⟨⟨cs⟩,rfl,hcs,ts',hts',_,hc⟩:=hv
  obtain rfl:=Option.some.inj (hct.symm.trans hts')
  have hl:cs.length=3:=by rw [<-hsz,<-hcs];simp
  match cs,hl,hc,hT with
  | [k0,k1,k2],_,hc,hT =>
    have g:∀(i:Nat) (u:TypeId) (v:Value),i<3->[t0,t1,t2][i]?=some u->[k0,k1,k2][i]?=some v->Cell.okWide P W r b0 u v:=λi u v hi hu hv=>by
      obtain ⟨u',h2,h3⟩:=hc i v (by simpa using hv)
      rw [Nat.mod_eq_of_lt (by simpa using hi),hu] at h2
      cases h2;exact h3
    obtain ⟨fuel,hT⟩:=hT
    have hT:DataW.trod enc P W 0 sp hd fuel t [k0,k1,k2]=some (d,ps):=hT
    obtain ⟨m0,y0,j0⟩:=FK ht f0 c0 hT
    obtain ⟨m1,y1,j1⟩:=FK ht f1 c1 hT
    obtain ⟨m2,y2,j2⟩:=FK ht f2 c2 hT
    obtain ⟨ds,pa,ca',rfl,hd1,ok1,hh1⟩:=Jb (ok:=PD.ok) h0 cp Gg (λfuel cs x h=>bj hp p0 p1 hq q0 q1 hi ci hu cu cq cp h) (g 0 _ _ jY rfl rfl) j0
    obtain ⟨tl,pb,cb,rfl,_,ok2,hh2⟩:=Jb (ok:=λ_=>True) h1 ca Cy (λfuel cs x h=>(Z4 ha hit cit ca h).imp λa k=>⟨trivial,k⟩) (g 1 _ _ jY rfl rfl) j1
    obtain ⟨sl,pc,cc,rfl,_,ok3,hh3⟩:=Jb (ok:=λ_=>True) h2 csd Cy (λfuel cs x h=>(Z6 hs s0 s1 s2 hit cit csd h).imp λa k=>⟨trivial,k⟩) (g 2 _ _ jY rfl rfl) j2
    refine ⟨⟨ds,tl,sl,⟨pa,ca',ok1⟩,⟨pb,cb,ok2⟩,⟨pc,cc,ok3⟩,hd1⟩,rfl,λy hy=>?_⟩
    have hy:y∈[AI pa (rowsL Cn ds),AI pb (rowsL BB tl),AI pc (rowsL BB sl)]:=hy
    simp only [xL,List.not_mem_nil,or_false] at hy
    rcases hy with rfl|rfl|rfl
    · exact ⟨hh1,λ_ _=>trivial⟩
    · exact ⟨hh2,λ_ _=>trivial⟩
    · exact ⟨hh3,λ_ _=>trivial⟩
end
end
end Go.Proofs.YtcpkbjjmcleplaaGreatDoor
