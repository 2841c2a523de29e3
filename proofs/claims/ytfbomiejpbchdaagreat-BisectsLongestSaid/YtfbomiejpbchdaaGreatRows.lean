/-
  No cell of these rows narrows 'for every input' (looked for: loops, veiled, ifaces, maps, wideKeys, modest, calm, conditions, laid).
  DERIVED. THE GIVEN ROWS OF THIS SEAT. 8 by the template 'for every input the law returns true; each argument reads behind the call as it read before'; 0 by the template 'total and deterministic' (their statements: YtfbomiejpbchdaaGreatTotals.lean).
  GIVEN WITH THE SEED: the statements are not yours to turn. If you find one false, say at which input.
  Laid BY PROGRAM, IN A SANDBOX (cutbox-rows.mjs): the forced cells as the released guide's own fill.sh prints them over the translation 5b7f4b66af7e6403… (all of the seat's roots in one cut). By AI agents, Wed Nov 11 2026. No macro, syntax, notation, axiom, sorry.
-/
import Derived.Test.YtfbomiejpbchdaaGreatChecked
import GoSem.Claim
import GoSem.ClaimJoined
import GoSem.ClaimMapViews
import Derived.JoinedTies
import Derived.KernelRfl
namespace Go.Proofs.YtfbomiejpbchdaaGreat
/- THE CELL 'sum', in the pinned program and in every row, IS THE sha256 OF THE DUMP (.gsa) THAT YtfbomiejpbchdaaGreatProg.lean LOADS. Nothing in Lean hashes anything: it is a label: what it is worth is what the hold of that sum in a sandbox is worth. -/
noncomputable def Tryz.pinned : Pinned := { name := "ytfbomiejpbchdaagreat", sum := "5b7f4b66af7e640317574049c2afd1f9ccf65145c2924145c53fb9aff5664b3b", checked := Tryz.checked }
namespace Rows
def none {H : Type} : Left H := { results := [], args := [] }

/-- 'gussetlaw28.RefinesCounts': WHATEVER THE INPUT: true; the input reads as it did. -/
def refinesCountsSpec : ChangeSpec := { name := "refinesCounts", fn := fun _ => fun
  | [d] => { results := [.lit (.bool true)], args := [d] }
  | _ => none }
def refinesCountsRow : OpenClaim := { program := "ytfbomiejpbchdaagreat", sum := "5b7f4b66af7e640317574049c2afd1f9ccf65145c2924145c53fb9aff5664b3b", func := "gusset/gussetlaw28.RefinesCounts", spec := "refinesCounts", inPlace := ["math/bits.Add64"], unfollowed := true, recurses := true, named := ["math/bits.overflowError"], plainKeys := false, apart := false }
def RefinesCountsSaid : Prop := refinesCountsRow.holds Tryz.pinned (OpenSpec.ofChange refinesCountsSpec)

/-- ITS FALSE NEIGHBOUR: 'it returns false'. Refute it at one input. -/
def refinesCountsWrong : ChangeSpec := { name := "refinesCounts", fn := fun _ => fun
  | [d] => { results := [.lit (.bool false)], args := [d] }
  | _ => none }
def RefinesCountsWrongFalsely : Prop := refinesCountsRow.holds Tryz.pinned (OpenSpec.ofChange refinesCountsWrong)

/-- 'gussetlaw28.RefinesFine': WHATEVER THE INPUT: true; the input reads as it did. -/
def refinesFineSpec : ChangeSpec := { name := "refinesFine", fn := fun _ => fun
  | [d] => { results := [.lit (.bool true)], args := [d] }
  | _ => none }
def refinesFineRow : OpenClaim := { program := "ytfbomiejpbchdaagreat", sum := "5b7f4b66af7e640317574049c2afd1f9ccf65145c2924145c53fb9aff5664b3b", func := "gusset/gussetlaw28.RefinesFine", spec := "refinesFine", inPlace := ["math/bits.Add64"], unfollowed := true, recurses := true, named := ["math/bits.overflowError"], plainKeys := false, apart := false }
def RefinesFineSaid : Prop := refinesFineRow.holds Tryz.pinned (OpenSpec.ofChange refinesFineSpec)

/-- ITS FALSE NEIGHBOUR: 'it returns false'. Refute it at one input. -/
def refinesFineWrong : ChangeSpec := { name := "refinesFine", fn := fun _ => fun
  | [d] => { results := [.lit (.bool false)], args := [d] }
  | _ => none }
def RefinesFineWrongFalsely : Prop := refinesFineRow.holds Tryz.pinned (OpenSpec.ofChange refinesFineWrong)

/-- 'gussetlaw29.BisectsFine': WHATEVER THE INPUT: true; the input reads as it did. -/
def bisectsFineSpec : ChangeSpec := { name := "bisectsFine", fn := fun _ => fun
  | [d1, d2] => { results := [.lit (.bool true)], args := [d1, d2] }
  | _ => none }
def bisectsFineRow : OpenClaim := { program := "ytfbomiejpbchdaagreat", sum := "5b7f4b66af7e640317574049c2afd1f9ccf65145c2924145c53fb9aff5664b3b", func := "gusset/gussetlaw29.BisectsFine", spec := "bisectsFine", inPlace := ["math/bits.Add64"], unfollowed := true, recurses := true, named := ["math/bits.overflowError"], plainKeys := false, apart := false }
def BisectsFineSaid : Prop := bisectsFineRow.holds Tryz.pinned (OpenSpec.ofChange bisectsFineSpec)

/-- ITS FALSE NEIGHBOUR: 'it returns false'. Refute it at one input. -/
def bisectsFineWrong : ChangeSpec := { name := "bisectsFine", fn := fun _ => fun
  | [d1, d2] => { results := [.lit (.bool false)], args := [d1, d2] }
  | _ => none }
def BisectsFineWrongFalsely : Prop := bisectsFineRow.holds Tryz.pinned (OpenSpec.ofChange bisectsFineWrong)

/-- 'gussetlaw29.BisectsLongest': WHATEVER THE INPUT: true; the input reads as it did. -/
def bisectsLongestSpec : ChangeSpec := { name := "bisectsLongest", fn := fun _ => fun
  | [d] => { results := [.lit (.bool true)], args := [d] }
  | _ => none }
def bisectsLongestRow : OpenClaim := { program := "ytfbomiejpbchdaagreat", sum := "5b7f4b66af7e640317574049c2afd1f9ccf65145c2924145c53fb9aff5664b3b", func := "gusset/gussetlaw29.BisectsLongest", spec := "bisectsLongest", inPlace := ["math/bits.Add64"], unfollowed := true, recurses := true, named := ["math/bits.overflowError"], plainKeys := false, apart := false }
def BisectsLongestSaid : Prop := bisectsLongestRow.holds Tryz.pinned (OpenSpec.ofChange bisectsLongestSpec)

/-- ITS FALSE NEIGHBOUR: 'it returns false'. Refute it at one input. -/
def bisectsLongestWrong : ChangeSpec := { name := "bisectsLongest", fn := fun _ => fun
  | [d] => { results := [.lit (.bool false)], args := [d] }
  | _ => none }
def BisectsLongestWrongFalsely : Prop := bisectsLongestRow.holds Tryz.pinned (OpenSpec.ofChange bisectsLongestWrong)

/-- 'gussetlaw29.BisectsShapes': WHATEVER THE INPUT: true; the input reads as it did. -/
def bisectsShapesSpec : ChangeSpec := { name := "bisectsShapes", fn := fun _ => fun
  | [d1, d2] => { results := [.lit (.bool true)], args := [d1, d2] }
  | _ => none }
def bisectsShapesRow : OpenClaim := { program := "ytfbomiejpbchdaagreat", sum := "5b7f4b66af7e640317574049c2afd1f9ccf65145c2924145c53fb9aff5664b3b", func := "gusset/gussetlaw29.BisectsShapes", spec := "bisectsShapes", inPlace := ["math/bits.Add64"], unfollowed := true, recurses := true, named := ["math/bits.overflowError"], plainKeys := false, apart := false }
def BisectsShapesSaid : Prop := bisectsShapesRow.holds Tryz.pinned (OpenSpec.ofChange bisectsShapesSpec)

/-- ITS FALSE NEIGHBOUR: 'it returns false'. Refute it at one input. -/
def bisectsShapesWrong : ChangeSpec := { name := "bisectsShapes", fn := fun _ => fun
  | [d1, d2] => { results := [.lit (.bool false)], args := [d1, d2] }
  | _ => none }
def BisectsShapesWrongFalsely : Prop := bisectsShapesRow.holds Tryz.pinned (OpenSpec.ofChange bisectsShapesWrong)

/-- 'gussetlaw26.RimsFine': WHATEVER THE INPUT: true; the input reads as it did. -/
def rimsFineSpec : ChangeSpec := { name := "rimsFine", fn := fun _ => fun
  | [d] => { results := [.lit (.bool true)], args := [d] }
  | _ => none }
def rimsFineRow : OpenClaim := { program := "ytfbomiejpbchdaagreat", sum := "5b7f4b66af7e640317574049c2afd1f9ccf65145c2924145c53fb9aff5664b3b", func := "gusset/gussetlaw26.RimsFine", spec := "rimsFine", inPlace := ["math/bits.Add64"], unfollowed := true, recurses := true, named := ["math/bits.overflowError"], plainKeys := false, apart := false }
def RimsFineSaid : Prop := rimsFineRow.holds Tryz.pinned (OpenSpec.ofChange rimsFineSpec)

/-- ITS FALSE NEIGHBOUR: 'it returns false'. Refute it at one input. -/
def rimsFineWrong : ChangeSpec := { name := "rimsFine", fn := fun _ => fun
  | [d] => { results := [.lit (.bool false)], args := [d] }
  | _ => none }
def RimsFineWrongFalsely : Prop := rimsFineRow.holds Tryz.pinned (OpenSpec.ofChange rimsFineWrong)

/-- 'gussetlaw26.RimsAny': WHATEVER THE INPUT: true; the input reads as it did. -/
def rimsAnySpec : ChangeSpec := { name := "rimsAny", fn := fun _ => fun
  | [d] => { results := [.lit (.bool true)], args := [d] }
  | _ => none }
def rimsAnyRow : OpenClaim := { program := "ytfbomiejpbchdaagreat", sum := "5b7f4b66af7e640317574049c2afd1f9ccf65145c2924145c53fb9aff5664b3b", func := "gusset/gussetlaw26.RimsAny", spec := "rimsAny", inPlace := ["math/bits.Add64"], unfollowed := true, recurses := true, named := ["math/bits.overflowError"], plainKeys := false, apart := false }
def RimsAnySaid : Prop := rimsAnyRow.holds Tryz.pinned (OpenSpec.ofChange rimsAnySpec)

/-- ITS FALSE NEIGHBOUR: 'it returns false'. Refute it at one input. -/
def rimsAnyWrong : ChangeSpec := { name := "rimsAny", fn := fun _ => fun
  | [d] => { results := [.lit (.bool false)], args := [d] }
  | _ => none }
def RimsAnyWrongFalsely : Prop := rimsAnyRow.holds Tryz.pinned (OpenSpec.ofChange rimsAnyWrong)

/-- 'gussetlaw26.RimsRound': WHATEVER THE INPUT: true; the input reads as it did. -/
def rimsRoundSpec : ChangeSpec := { name := "rimsRound", fn := fun _ => fun
  | [d] => { results := [.lit (.bool true)], args := [d] }
  | _ => none }
def rimsRoundRow : OpenClaim := { program := "ytfbomiejpbchdaagreat", sum := "5b7f4b66af7e640317574049c2afd1f9ccf65145c2924145c53fb9aff5664b3b", func := "gusset/gussetlaw26.RimsRound", spec := "rimsRound", inPlace := ["math/bits.Add64"], unfollowed := true, recurses := true, named := ["math/bits.overflowError"], plainKeys := false, apart := false }
def RimsRoundSaid : Prop := rimsRoundRow.holds Tryz.pinned (OpenSpec.ofChange rimsRoundSpec)

/-- ITS FALSE NEIGHBOUR: 'it returns false'. Refute it at one input. -/
def rimsRoundWrong : ChangeSpec := { name := "rimsRound", fn := fun _ => fun
  | [d] => { results := [.lit (.bool false)], args := [d] }
  | _ => none }
def RimsRoundWrongFalsely : Prop := rimsRoundRow.holds Tryz.pinned (OpenSpec.ofChange rimsRoundWrong)

/- THE SECOND FORM. 'bulk': how many values and letters a reading holds, each counted each time it is reached (what is shared counts as often as it is met; a slice's spare places count too). A statement '..UptoSaid' is the law's where the arguments, and the package variables that the reading takes, are together of bulk at most 1048576: NARROWER than '..Said'. Prove '..Said' where nothing that the law and all that it calls make is longer than what came in: it says more and counts as full. Else prove '..UptoSaid'. A law counts once. -/
mutual
def uptoBulk {H : Type} : DataW H → Nat
  | .lit (.string bytes) => bytes.length + 1
  | .lit _ => 1
  | .nil => 1
  | .ptr d => uptoBulk d + 1
  | .slice elems spare => uptoBulkAll elems + uptoBulkAll spare + 1
  | .agg parts => uptoBulkAll parts + 1
  | .iface _ d => uptoBulk d + 1
  | .map entries => uptoBulkEntries entries + 1
  | .held _ => 1
def uptoBulkAll {H : Type} : List (DataW H) → Nat
  | [] => 0
  | d :: r => uptoBulk d + uptoBulkAll r
def uptoBulkEntries {H : Type} : List (Lit × DataW H) → Nat
  | [] => 0
  | x :: r => uptoBulkEntry x + uptoBulkEntries r
def uptoBulkEntry {H : Type} : Lit × DataW H → Nat
  | (.string bytes, d) => bytes.length + uptoBulk d + 1
  | (_, d) => uptoBulk d + 1
 end
def uptoSmall : (H : Type) → List (DataW H) → Bool := fun _ ds => decide (uptoBulkAll ds ≤ 1048576)
def OpenSpec.upto (s : _root_.Go.ChangeSpec) : _root_.Go.OpenSpec := { _root_.Go.OpenSpec.ofChange s with cond := some uptoSmall }

/-- 'gussetlaw28.RefinesCounts', WHERE WHAT IT READS IS OF BULK AT MOST 1048576: true; the input reads as it did. -/
def refinesCountsUptoRow : OpenClaim := { program := "ytfbomiejpbchdaagreat", sum := "5b7f4b66af7e640317574049c2afd1f9ccf65145c2924145c53fb9aff5664b3b", func := "gusset/gussetlaw28.RefinesCounts", spec := "refinesCounts", inPlace := ["math/bits.Add64"], unfollowed := true, recurses := true, named := ["math/bits.overflowError"], plainKeys := false, apart := false, narrowed := true }
def RefinesCountsUptoSaid : Prop := refinesCountsUptoRow.holds Tryz.pinned (OpenSpec.upto refinesCountsSpec)

/-- 'gussetlaw28.RefinesFine', WHERE WHAT IT READS IS OF BULK AT MOST 1048576: true; the input reads as it did. -/
def refinesFineUptoRow : OpenClaim := { program := "ytfbomiejpbchdaagreat", sum := "5b7f4b66af7e640317574049c2afd1f9ccf65145c2924145c53fb9aff5664b3b", func := "gusset/gussetlaw28.RefinesFine", spec := "refinesFine", inPlace := ["math/bits.Add64"], unfollowed := true, recurses := true, named := ["math/bits.overflowError"], plainKeys := false, apart := false, narrowed := true }
def RefinesFineUptoSaid : Prop := refinesFineUptoRow.holds Tryz.pinned (OpenSpec.upto refinesFineSpec)

/-- 'gussetlaw29.BisectsFine', WHERE WHAT IT READS IS OF BULK AT MOST 1048576: true; the input reads as it did. -/
def bisectsFineUptoRow : OpenClaim := { program := "ytfbomiejpbchdaagreat", sum := "5b7f4b66af7e640317574049c2afd1f9ccf65145c2924145c53fb9aff5664b3b", func := "gusset/gussetlaw29.BisectsFine", spec := "bisectsFine", inPlace := ["math/bits.Add64"], unfollowed := true, recurses := true, named := ["math/bits.overflowError"], plainKeys := false, apart := false, narrowed := true }
def BisectsFineUptoSaid : Prop := bisectsFineUptoRow.holds Tryz.pinned (OpenSpec.upto bisectsFineSpec)

/-- 'gussetlaw29.BisectsLongest', WHERE WHAT IT READS IS OF BULK AT MOST 1048576: true; the input reads as it did. -/
def bisectsLongestUptoRow : OpenClaim := { program := "ytfbomiejpbchdaagreat", sum := "5b7f4b66af7e640317574049c2afd1f9ccf65145c2924145c53fb9aff5664b3b", func := "gusset/gussetlaw29.BisectsLongest", spec := "bisectsLongest", inPlace := ["math/bits.Add64"], unfollowed := true, recurses := true, named := ["math/bits.overflowError"], plainKeys := false, apart := false, narrowed := true }
def BisectsLongestUptoSaid : Prop := bisectsLongestUptoRow.holds Tryz.pinned (OpenSpec.upto bisectsLongestSpec)

/-- 'gussetlaw29.BisectsShapes', WHERE WHAT IT READS IS OF BULK AT MOST 1048576: true; the input reads as it did. -/
def bisectsShapesUptoRow : OpenClaim := { program := "ytfbomiejpbchdaagreat", sum := "5b7f4b66af7e640317574049c2afd1f9ccf65145c2924145c53fb9aff5664b3b", func := "gusset/gussetlaw29.BisectsShapes", spec := "bisectsShapes", inPlace := ["math/bits.Add64"], unfollowed := true, recurses := true, named := ["math/bits.overflowError"], plainKeys := false, apart := false, narrowed := true }
def BisectsShapesUptoSaid : Prop := bisectsShapesUptoRow.holds Tryz.pinned (OpenSpec.upto bisectsShapesSpec)

/-- 'gussetlaw26.RimsFine', WHERE WHAT IT READS IS OF BULK AT MOST 1048576: true; the input reads as it did. -/
def rimsFineUptoRow : OpenClaim := { program := "ytfbomiejpbchdaagreat", sum := "5b7f4b66af7e640317574049c2afd1f9ccf65145c2924145c53fb9aff5664b3b", func := "gusset/gussetlaw26.RimsFine", spec := "rimsFine", inPlace := ["math/bits.Add64"], unfollowed := true, recurses := true, named := ["math/bits.overflowError"], plainKeys := false, apart := false, narrowed := true }
def RimsFineUptoSaid : Prop := rimsFineUptoRow.holds Tryz.pinned (OpenSpec.upto rimsFineSpec)

/-- 'gussetlaw26.RimsAny', WHERE WHAT IT READS IS OF BULK AT MOST 1048576: true; the input reads as it did. -/
def rimsAnyUptoRow : OpenClaim := { program := "ytfbomiejpbchdaagreat", sum := "5b7f4b66af7e640317574049c2afd1f9ccf65145c2924145c53fb9aff5664b3b", func := "gusset/gussetlaw26.RimsAny", spec := "rimsAny", inPlace := ["math/bits.Add64"], unfollowed := true, recurses := true, named := ["math/bits.overflowError"], plainKeys := false, apart := false, narrowed := true }
def RimsAnyUptoSaid : Prop := rimsAnyUptoRow.holds Tryz.pinned (OpenSpec.upto rimsAnySpec)

/-- 'gussetlaw26.RimsRound', WHERE WHAT IT READS IS OF BULK AT MOST 1048576: true; the input reads as it did. -/
def rimsRoundUptoRow : OpenClaim := { program := "ytfbomiejpbchdaagreat", sum := "5b7f4b66af7e640317574049c2afd1f9ccf65145c2924145c53fb9aff5664b3b", func := "gusset/gussetlaw26.RimsRound", spec := "rimsRound", inPlace := ["math/bits.Add64"], unfollowed := true, recurses := true, named := ["math/bits.overflowError"], plainKeys := false, apart := false, narrowed := true }
def RimsRoundUptoSaid : Prop := rimsRoundUptoRow.holds Tryz.pinned (OpenSpec.upto rimsRoundSpec)

end Rows
end Go.Proofs.YtfbomiejpbchdaaGreat
