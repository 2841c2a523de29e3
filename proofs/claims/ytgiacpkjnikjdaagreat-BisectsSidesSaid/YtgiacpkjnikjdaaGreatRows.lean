/-
  No cell of these rows narrows 'for every input' (looked for: loops, veiled, ifaces, maps, wideKeys, modest, calm, conditions, laid).
  DERIVED. THE GIVEN ROWS OF THIS SEAT. 9 by the template 'for every input the law returns true; each argument reads behind the call as it read before'; 0 by the template 'total and deterministic' (their statements: YtgiacpkjnikjdaaGreatTotals.lean).
  GIVEN WITH THE SEED: the statements are not yours to turn. If you find one false, say at which input.
  Laid BY PROGRAM, IN A SANDBOX (cutbox-rows.mjs): the forced cells as the released guide's own fill.sh prints them over the translation b56eca42c0f8eae2… (all of the seat's roots in one cut). By AI agents, Wed Nov 11 2026. No macro, syntax, notation, axiom, sorry.
-/
import Derived.Test.YtgiacpkjnikjdaaGreatChecked
import GoSem.Claim
import GoSem.ClaimJoined
import GoSem.ClaimMapViews
import Derived.JoinedTies
import Derived.KernelRfl
namespace Go.Proofs.YtgiacpkjnikjdaaGreat
/- THE CELL 'sum', in the pinned program and in every row, IS THE sha256 OF THE DUMP (.gsa) THAT YtgiacpkjnikjdaaGreatProg.lean LOADS. Nothing in Lean hashes anything: it is a label: what it is worth is what the hold of that sum in a sandbox is worth. -/
noncomputable def Tryz.pinned : Pinned := { name := "ytgiacpkjnikjdaagreat", sum := "b56eca42c0f8eae26cd5e0e75fc6d3e62c9e9f915f581d5c5d7bb4a4f3b379c4", checked := Tryz.checked }
namespace Rows
def none {H : Type} : Left H := { results := [], args := [] }

/-- 'gussetlaw29.BisectsNone': WHATEVER THE INPUT: true; the input reads as it did. -/
def bisectsNoneSpec : ChangeSpec := { name := "bisectsNone", fn := fun _ => fun
  | [d1, d2, d3] => { results := [.lit (.bool true)], args := [d1, d2, d3] }
  | _ => none }
def bisectsNoneRow : OpenClaim := { program := "ytgiacpkjnikjdaagreat", sum := "b56eca42c0f8eae26cd5e0e75fc6d3e62c9e9f915f581d5c5d7bb4a4f3b379c4", func := "gusset/gussetlaw29.BisectsNone", spec := "bisectsNone", inPlace := ["math/bits.Add64"], unfollowed := true, recurses := true, named := ["math/bits.overflowError"], plainKeys := false, apart := false }
def BisectsNoneSaid : Prop := bisectsNoneRow.holds Tryz.pinned (OpenSpec.ofChange bisectsNoneSpec)

/-- ITS FALSE NEIGHBOUR: 'it returns false'. Refute it at one input. -/
def bisectsNoneWrong : ChangeSpec := { name := "bisectsNone", fn := fun _ => fun
  | [d1, d2, d3] => { results := [.lit (.bool false)], args := [d1, d2, d3] }
  | _ => none }
def BisectsNoneWrongFalsely : Prop := bisectsNoneRow.holds Tryz.pinned (OpenSpec.ofChange bisectsNoneWrong)

/-- 'gussetlaw26.RimsParts': WHATEVER THE INPUT: true; the input reads as it did. -/
def rimsPartsSpec : ChangeSpec := { name := "rimsParts", fn := fun _ => fun
  | [d] => { results := [.lit (.bool true)], args := [d] }
  | _ => none }
def rimsPartsRow : OpenClaim := { program := "ytgiacpkjnikjdaagreat", sum := "b56eca42c0f8eae26cd5e0e75fc6d3e62c9e9f915f581d5c5d7bb4a4f3b379c4", func := "gusset/gussetlaw26.RimsParts", spec := "rimsParts", inPlace := ["math/bits.Add64"], unfollowed := true, recurses := true, named := ["math/bits.overflowError"], plainKeys := false, apart := false }
def RimsPartsSaid : Prop := rimsPartsRow.holds Tryz.pinned (OpenSpec.ofChange rimsPartsSpec)

/-- ITS FALSE NEIGHBOUR: 'it returns false'. Refute it at one input. -/
def rimsPartsWrong : ChangeSpec := { name := "rimsParts", fn := fun _ => fun
  | [d] => { results := [.lit (.bool false)], args := [d] }
  | _ => none }
def RimsPartsWrongFalsely : Prop := rimsPartsRow.holds Tryz.pinned (OpenSpec.ofChange rimsPartsWrong)

/-- 'gussetlaw26.RimsAny': WHATEVER THE INPUT: true; the input reads as it did. -/
def rimsAnySpec : ChangeSpec := { name := "rimsAny", fn := fun _ => fun
  | [d] => { results := [.lit (.bool true)], args := [d] }
  | _ => none }
def rimsAnyRow : OpenClaim := { program := "ytgiacpkjnikjdaagreat", sum := "b56eca42c0f8eae26cd5e0e75fc6d3e62c9e9f915f581d5c5d7bb4a4f3b379c4", func := "gusset/gussetlaw26.RimsAny", spec := "rimsAny", inPlace := ["math/bits.Add64"], unfollowed := true, recurses := true, named := ["math/bits.overflowError"], plainKeys := false, apart := false }
def RimsAnySaid : Prop := rimsAnyRow.holds Tryz.pinned (OpenSpec.ofChange rimsAnySpec)

/-- ITS FALSE NEIGHBOUR: 'it returns false'. Refute it at one input. -/
def rimsAnyWrong : ChangeSpec := { name := "rimsAny", fn := fun _ => fun
  | [d] => { results := [.lit (.bool false)], args := [d] }
  | _ => none }
def RimsAnyWrongFalsely : Prop := rimsAnyRow.holds Tryz.pinned (OpenSpec.ofChange rimsAnyWrong)

/-- 'gussetlaw26.RimsFine': WHATEVER THE INPUT: true; the input reads as it did. -/
def rimsFineSpec : ChangeSpec := { name := "rimsFine", fn := fun _ => fun
  | [d] => { results := [.lit (.bool true)], args := [d] }
  | _ => none }
def rimsFineRow : OpenClaim := { program := "ytgiacpkjnikjdaagreat", sum := "b56eca42c0f8eae26cd5e0e75fc6d3e62c9e9f915f581d5c5d7bb4a4f3b379c4", func := "gusset/gussetlaw26.RimsFine", spec := "rimsFine", inPlace := ["math/bits.Add64"], unfollowed := true, recurses := true, named := ["math/bits.overflowError"], plainKeys := false, apart := false }
def RimsFineSaid : Prop := rimsFineRow.holds Tryz.pinned (OpenSpec.ofChange rimsFineSpec)

/-- ITS FALSE NEIGHBOUR: 'it returns false'. Refute it at one input. -/
def rimsFineWrong : ChangeSpec := { name := "rimsFine", fn := fun _ => fun
  | [d] => { results := [.lit (.bool false)], args := [d] }
  | _ => none }
def RimsFineWrongFalsely : Prop := rimsFineRow.holds Tryz.pinned (OpenSpec.ofChange rimsFineWrong)

/-- 'gussetlaw26.RimsWays': WHATEVER THE INPUT: true; the input reads as it did. -/
def rimsWaysSpec : ChangeSpec := { name := "rimsWays", fn := fun _ => fun
  | [d1, d2] => { results := [.lit (.bool true)], args := [d1, d2] }
  | _ => none }
def rimsWaysRow : OpenClaim := { program := "ytgiacpkjnikjdaagreat", sum := "b56eca42c0f8eae26cd5e0e75fc6d3e62c9e9f915f581d5c5d7bb4a4f3b379c4", func := "gusset/gussetlaw26.RimsWays", spec := "rimsWays", inPlace := ["math/bits.Add64"], unfollowed := true, recurses := true, named := ["math/bits.overflowError"], plainKeys := false, apart := false }
def RimsWaysSaid : Prop := rimsWaysRow.holds Tryz.pinned (OpenSpec.ofChange rimsWaysSpec)

/-- ITS FALSE NEIGHBOUR: 'it returns false'. Refute it at one input. -/
def rimsWaysWrong : ChangeSpec := { name := "rimsWays", fn := fun _ => fun
  | [d1, d2] => { results := [.lit (.bool false)], args := [d1, d2] }
  | _ => none }
def RimsWaysWrongFalsely : Prop := rimsWaysRow.holds Tryz.pinned (OpenSpec.ofChange rimsWaysWrong)

/-- 'gussetlaw29.BisectsSides': WHATEVER THE INPUT: true; the input reads as it did. -/
def bisectsSidesSpec : ChangeSpec := { name := "bisectsSides", fn := fun _ => fun
  | [d1, d2] => { results := [.lit (.bool true)], args := [d1, d2] }
  | _ => none }
def bisectsSidesRow : OpenClaim := { program := "ytgiacpkjnikjdaagreat", sum := "b56eca42c0f8eae26cd5e0e75fc6d3e62c9e9f915f581d5c5d7bb4a4f3b379c4", func := "gusset/gussetlaw29.BisectsSides", spec := "bisectsSides", inPlace := ["math/bits.Add64"], unfollowed := true, recurses := true, named := ["math/bits.overflowError"], plainKeys := false, apart := false }
def BisectsSidesSaid : Prop := bisectsSidesRow.holds Tryz.pinned (OpenSpec.ofChange bisectsSidesSpec)

/-- ITS FALSE NEIGHBOUR: 'it returns false'. Refute it at one input. -/
def bisectsSidesWrong : ChangeSpec := { name := "bisectsSides", fn := fun _ => fun
  | [d1, d2] => { results := [.lit (.bool false)], args := [d1, d2] }
  | _ => none }
def BisectsSidesWrongFalsely : Prop := bisectsSidesRow.holds Tryz.pinned (OpenSpec.ofChange bisectsSidesWrong)

/-- 'gussetlaw28.RefinesCounts': WHATEVER THE INPUT: true; the input reads as it did. -/
def refinesCountsSpec : ChangeSpec := { name := "refinesCounts", fn := fun _ => fun
  | [d] => { results := [.lit (.bool true)], args := [d] }
  | _ => none }
def refinesCountsRow : OpenClaim := { program := "ytgiacpkjnikjdaagreat", sum := "b56eca42c0f8eae26cd5e0e75fc6d3e62c9e9f915f581d5c5d7bb4a4f3b379c4", func := "gusset/gussetlaw28.RefinesCounts", spec := "refinesCounts", inPlace := ["math/bits.Add64"], unfollowed := true, recurses := true, named := ["math/bits.overflowError"], plainKeys := false, apart := false }
def RefinesCountsSaid : Prop := refinesCountsRow.holds Tryz.pinned (OpenSpec.ofChange refinesCountsSpec)

/-- ITS FALSE NEIGHBOUR: 'it returns false'. Refute it at one input. -/
def refinesCountsWrong : ChangeSpec := { name := "refinesCounts", fn := fun _ => fun
  | [d] => { results := [.lit (.bool false)], args := [d] }
  | _ => none }
def RefinesCountsWrongFalsely : Prop := refinesCountsRow.holds Tryz.pinned (OpenSpec.ofChange refinesCountsWrong)

/-- 'gussetlaw26.RimsRound': WHATEVER THE INPUT: true; the input reads as it did. -/
def rimsRoundSpec : ChangeSpec := { name := "rimsRound", fn := fun _ => fun
  | [d] => { results := [.lit (.bool true)], args := [d] }
  | _ => none }
def rimsRoundRow : OpenClaim := { program := "ytgiacpkjnikjdaagreat", sum := "b56eca42c0f8eae26cd5e0e75fc6d3e62c9e9f915f581d5c5d7bb4a4f3b379c4", func := "gusset/gussetlaw26.RimsRound", spec := "rimsRound", inPlace := ["math/bits.Add64"], unfollowed := true, recurses := true, named := ["math/bits.overflowError"], plainKeys := false, apart := false }
def RimsRoundSaid : Prop := rimsRoundRow.holds Tryz.pinned (OpenSpec.ofChange rimsRoundSpec)

/-- ITS FALSE NEIGHBOUR: 'it returns false'. Refute it at one input. -/
def rimsRoundWrong : ChangeSpec := { name := "rimsRound", fn := fun _ => fun
  | [d] => { results := [.lit (.bool false)], args := [d] }
  | _ => none }
def RimsRoundWrongFalsely : Prop := rimsRoundRow.holds Tryz.pinned (OpenSpec.ofChange rimsRoundWrong)

/-- 'gussetlaw29.BisectsShapes': WHATEVER THE INPUT: true; the input reads as it did. -/
def bisectsShapesSpec : ChangeSpec := { name := "bisectsShapes", fn := fun _ => fun
  | [d1, d2] => { results := [.lit (.bool true)], args := [d1, d2] }
  | _ => none }
def bisectsShapesRow : OpenClaim := { program := "ytgiacpkjnikjdaagreat", sum := "b56eca42c0f8eae26cd5e0e75fc6d3e62c9e9f915f581d5c5d7bb4a4f3b379c4", func := "gusset/gussetlaw29.BisectsShapes", spec := "bisectsShapes", inPlace := ["math/bits.Add64"], unfollowed := true, recurses := true, named := ["math/bits.overflowError"], plainKeys := false, apart := false }
def BisectsShapesSaid : Prop := bisectsShapesRow.holds Tryz.pinned (OpenSpec.ofChange bisectsShapesSpec)

/-- ITS FALSE NEIGHBOUR: 'it returns false'. Refute it at one input. -/
def bisectsShapesWrong : ChangeSpec := { name := "bisectsShapes", fn := fun _ => fun
  | [d1, d2] => { results := [.lit (.bool false)], args := [d1, d2] }
  | _ => none }
def BisectsShapesWrongFalsely : Prop := bisectsShapesRow.holds Tryz.pinned (OpenSpec.ofChange bisectsShapesWrong)

/- THE SECOND FORM. 'bulk': how many values and letters a reading holds, each counted each time it is reached (what is shared counts as often as it is met; a slice's spare places count too). A statement '..UptoSaid' is the law's where the arguments, and the package variables that the reading takes, are together of bulk at most 1048576: NARROWER than '..Said'. Prove '..Said' where nothing that the law and all that it calls make is longer than what came in: it says more and counts as full. Else prove '..UptoSaid'. A law counts once. -/
mutual
def uptoBulk {H : Type} : DataW H → Nat
  | .lit (.string bytes) => bytes.length + 1
  | .lit _ => 1
  | .nil => 1
  | .ptr d => uptoBulk d + 1
  | .slice elems spare => uptoBulkAll elems + uptoBulkAll spare + 1
  | .agg parts => uptoBulkAll parts + 1
  | .iface _ d => uptoBulk d + 1
  | .map entries => uptoBulkEntries entries + 1
  | .held _ => 1
def uptoBulkAll {H : Type} : List (DataW H) → Nat
  | [] => 0
  | d :: r => uptoBulk d + uptoBulkAll r
def uptoBulkEntries {H : Type} : List (Lit × DataW H) → Nat
  | [] => 0
  | x :: r => uptoBulkEntry x + uptoBulkEntries r
def uptoBulkEntry {H : Type} : Lit × DataW H → Nat
  | (.string bytes, d) => bytes.length + uptoBulk d + 1
  | (_, d) => uptoBulk d + 1
 end
def uptoSmall : (H : Type) → List (DataW H) → Bool := fun _ ds => decide (uptoBulkAll ds ≤ 1048576)
def OpenSpec.upto (s : _root_.Go.ChangeSpec) : _root_.Go.OpenSpec := { _root_.Go.OpenSpec.ofChange s with cond := some uptoSmall }

/-- 'gussetlaw29.BisectsNone', WHERE WHAT IT READS IS OF BULK AT MOST 1048576: true; the input reads as it did. -/
def bisectsNoneUptoRow : OpenClaim := { program := "ytgiacpkjnikjdaagreat", sum := "b56eca42c0f8eae26cd5e0e75fc6d3e62c9e9f915f581d5c5d7bb4a4f3b379c4", func := "gusset/gussetlaw29.BisectsNone", spec := "bisectsNone", inPlace := ["math/bits.Add64"], unfollowed := true, recurses := true, named := ["math/bits.overflowError"], plainKeys := false, apart := false, narrowed := true }
def BisectsNoneUptoSaid : Prop := bisectsNoneUptoRow.holds Tryz.pinned (OpenSpec.upto bisectsNoneSpec)

/-- 'gussetlaw26.RimsParts', WHERE WHAT IT READS IS OF BULK AT MOST 1048576: true; the input reads as it did. -/
def rimsPartsUptoRow : OpenClaim := { program := "ytgiacpkjnikjdaagreat", sum := "b56eca42c0f8eae26cd5e0e75fc6d3e62c9e9f915f581d5c5d7bb4a4f3b379c4", func := "gusset/gussetlaw26.RimsParts", spec := "rimsParts", inPlace := ["math/bits.Add64"], unfollowed := true, recurses := true, named := ["math/bits.overflowError"], plainKeys := false, apart := false, narrowed := true }
def RimsPartsUptoSaid : Prop := rimsPartsUptoRow.holds Tryz.pinned (OpenSpec.upto rimsPartsSpec)

/-- 'gussetlaw26.RimsAny', WHERE WHAT IT READS IS OF BULK AT MOST 1048576: true; the input reads as it did. -/
def rimsAnyUptoRow : OpenClaim := { program := "ytgiacpkjnikjdaagreat", sum := "b56eca42c0f8eae26cd5e0e75fc6d3e62c9e9f915f581d5c5d7bb4a4f3b379c4", func := "gusset/gussetlaw26.RimsAny", spec := "rimsAny", inPlace := ["math/bits.Add64"], unfollowed := true, recurses := true, named := ["math/bits.overflowError"], plainKeys := false, apart := false, narrowed := true }
def RimsAnyUptoSaid : Prop := rimsAnyUptoRow.holds Tryz.pinned (OpenSpec.upto rimsAnySpec)

/-- 'gussetlaw26.RimsFine', WHERE WHAT IT READS IS OF BULK AT MOST 1048576: true; the input reads as it did. -/
def rimsFineUptoRow : OpenClaim := { program := "ytgiacpkjnikjdaagreat", sum := "b56eca42c0f8eae26cd5e0e75fc6d3e62c9e9f915f581d5c5d7bb4a4f3b379c4", func := "gusset/gussetlaw26.RimsFine", spec := "rimsFine", inPlace := ["math/bits.Add64"], unfollowed := true, recurses := true, named := ["math/bits.overflowError"], plainKeys := false, apart := false, narrowed := true }
def RimsFineUptoSaid : Prop := rimsFineUptoRow.holds Tryz.pinned (OpenSpec.upto rimsFineSpec)

/-- 'gussetlaw26.RimsWays', WHERE WHAT IT READS IS OF BULK AT MOST 1048576: true; the input reads as it did. -/
def rimsWaysUptoRow : OpenClaim := { program := "ytgiacpkjnikjdaagreat", sum := "b56eca42c0f8eae26cd5e0e75fc6d3e62c9e9f915f581d5c5d7bb4a4f3b379c4", func := "gusset/gussetlaw26.RimsWays", spec := "rimsWays", inPlace := ["math/bits.Add64"], unfollowed := true, recurses := true, named := ["math/bits.overflowError"], plainKeys := false, apart := false, narrowed := true }
def RimsWaysUptoSaid : Prop := rimsWaysUptoRow.holds Tryz.pinned (OpenSpec.upto rimsWaysSpec)

/-- 'gussetlaw29.BisectsSides', WHERE WHAT IT READS IS OF BULK AT MOST 1048576: true; the input reads as it did. -/
def bisectsSidesUptoRow : OpenClaim := { program := "ytgiacpkjnikjdaagreat", sum := "b56eca42c0f8eae26cd5e0e75fc6d3e62c9e9f915f581d5c5d7bb4a4f3b379c4", func := "gusset/gussetlaw29.BisectsSides", spec := "bisectsSides", inPlace := ["math/bits.Add64"], unfollowed := true, recurses := true, named := ["math/bits.overflowError"], plainKeys := false, apart := false, narrowed := true }
def BisectsSidesUptoSaid : Prop := bisectsSidesUptoRow.holds Tryz.pinned (OpenSpec.upto bisectsSidesSpec)

/-- 'gussetlaw28.RefinesCounts', WHERE WHAT IT READS IS OF BULK AT MOST 1048576: true; the input reads as it did. -/
def refinesCountsUptoRow : OpenClaim := { program := "ytgiacpkjnikjdaagreat", sum := "b56eca42c0f8eae26cd5e0e75fc6d3e62c9e9f915f581d5c5d7bb4a4f3b379c4", func := "gusset/gussetlaw28.RefinesCounts", spec := "refinesCounts", inPlace := ["math/bits.Add64"], unfollowed := true, recurses := true, named := ["math/bits.overflowError"], plainKeys := false, apart := false, narrowed := true }
def RefinesCountsUptoSaid : Prop := refinesCountsUptoRow.holds Tryz.pinned (OpenSpec.upto refinesCountsSpec)

/-- 'gussetlaw26.RimsRound', WHERE WHAT IT READS IS OF BULK AT MOST 1048576: true; the input reads as it did. -/
def rimsRoundUptoRow : OpenClaim := { program := "ytgiacpkjnikjdaagreat", sum := "b56eca42c0f8eae26cd5e0e75fc6d3e62c9e9f915f581d5c5d7bb4a4f3b379c4", func := "gusset/gussetlaw26.RimsRound", spec := "rimsRound", inPlace := ["math/bits.Add64"], unfollowed := true, recurses := true, named := ["math/bits.overflowError"], plainKeys := false, apart := false, narrowed := true }
def RimsRoundUptoSaid : Prop := rimsRoundUptoRow.holds Tryz.pinned (OpenSpec.upto rimsRoundSpec)

/-- 'gussetlaw29.BisectsShapes', WHERE WHAT IT READS IS OF BULK AT MOST 1048576: true; the input reads as it did. -/
def bisectsShapesUptoRow : OpenClaim := { program := "ytgiacpkjnikjdaagreat", sum := "b56eca42c0f8eae26cd5e0e75fc6d3e62c9e9f915f581d5c5d7bb4a4f3b379c4", func := "gusset/gussetlaw29.BisectsShapes", spec := "bisectsShapes", inPlace := ["math/bits.Add64"], unfollowed := true, recurses := true, named := ["math/bits.overflowError"], plainKeys := false, apart := false, narrowed := true }
def BisectsShapesUptoSaid : Prop := bisectsShapesUptoRow.holds Tryz.pinned (OpenSpec.upto bisectsShapesSpec)

end Rows
end Go.Proofs.YtgiacpkjnikjdaaGreat
