/-
  No cell of these rows narrows 'for every input' (looked for: loops, veiled, ifaces, maps, wideKeys, modest, calm, conditions, laid).
  DERIVED. THE GIVEN ROWS OF THIS SEAT. 2 by the template 'for every input the law returns true; each argument reads behind the call as it read before'; 0 by the template 'total and deterministic' (their statements: YtpgncndhhhllfaaGreatTotals.lean).
  GIVEN WITH THE SEED: the statements are not yours to turn. If you find one false, say at which input.
  Laid BY PROGRAM, IN A SANDBOX (cutbox-rows.mjs): the forced cells as the released guide's own fill.sh prints them over the translation ff53f48e8a1411ef… (all of the seat's roots in one cut). By AI agents, Wed Nov 11 2026. No macro, syntax, notation, axiom, sorry.
-/
import Derived.Test.YtpgncndhhhllfaaGreatChecked
import GoSem.Claim
import GoSem.ClaimJoined
import GoSem.ClaimMapViews
import Derived.JoinedTies
import Derived.KernelRfl
namespace Go.Proofs.YtpgncndhhhllfaaGreat
/- THE CELL 'sum', in the pinned program and in every row, IS THE sha256 OF THE DUMP (.gsa) THAT YtpgncndhhhllfaaGreatProg.lean LOADS. Nothing in Lean hashes anything: it is a label: what it is worth is what the hold of that sum in a sandbox is worth. -/
noncomputable def Tryz.pinned : Pinned := { name := "ytpgncndhhhllfaagreat", sum := "ff53f48e8a1411ef6054b43df815a6d996ebf327d571f770478dcef11d36e23c", checked := Tryz.checked }
namespace Rows
def none {H : Type} : Left H := { results := [], args := [] }

/-- 'gussetlaw26.RimsFine': WHATEVER THE INPUT: true; the input reads as it did. -/
def rimsFineSpec : ChangeSpec := { name := "rimsFine", fn := fun _ => fun
  | [d] => { results := [.lit (.bool true)], args := [d] }
  | _ => none }
def rimsFineRow : OpenClaim := { program := "ytpgncndhhhllfaagreat", sum := "ff53f48e8a1411ef6054b43df815a6d996ebf327d571f770478dcef11d36e23c", func := "gusset/gussetlaw26.RimsFine", spec := "rimsFine", inPlace := ["math/bits.Add64"], unfollowed := true, recurses := true, named := ["math/bits.overflowError"], plainKeys := false, apart := false }
def RimsFineSaid : Prop := rimsFineRow.holds Tryz.pinned (OpenSpec.ofChange rimsFineSpec)

/-- ITS FALSE NEIGHBOUR: 'it returns false'. Refute it at one input. -/
def rimsFineWrong : ChangeSpec := { name := "rimsFine", fn := fun _ => fun
  | [d] => { results := [.lit (.bool false)], args := [d] }
  | _ => none }
def RimsFineWrongFalsely : Prop := rimsFineRow.holds Tryz.pinned (OpenSpec.ofChange rimsFineWrong)

/-- 'gussetlaw26.RimsAny': WHATEVER THE INPUT: true; the input reads as it did. -/
def rimsAnySpec : ChangeSpec := { name := "rimsAny", fn := fun _ => fun
  | [d] => { results := [.lit (.bool true)], args := [d] }
  | _ => none }
def rimsAnyRow : OpenClaim := { program := "ytpgncndhhhllfaagreat", sum := "ff53f48e8a1411ef6054b43df815a6d996ebf327d571f770478dcef11d36e23c", func := "gusset/gussetlaw26.RimsAny", spec := "rimsAny", inPlace := ["math/bits.Add64"], unfollowed := true, recurses := true, named := ["math/bits.overflowError"], plainKeys := false, apart := false }
def RimsAnySaid : Prop := rimsAnyRow.holds Tryz.pinned (OpenSpec.ofChange rimsAnySpec)

/-- ITS FALSE NEIGHBOUR: 'it returns false'. Refute it at one input. -/
def rimsAnyWrong : ChangeSpec := { name := "rimsAny", fn := fun _ => fun
  | [d] => { results := [.lit (.bool false)], args := [d] }
  | _ => none }
def RimsAnyWrongFalsely : Prop := rimsAnyRow.holds Tryz.pinned (OpenSpec.ofChange rimsAnyWrong)

/- THE SECOND FORM. 'bulk': how many values and letters a reading holds, each counted each time it is reached (what is shared counts as often as it is met; a slice's spare places count too). A statement '..UptoSaid' is the law's where the arguments, and the package variables that the reading takes, are together of bulk at most 1048576: NARROWER than '..Said'. Prove '..Said' where nothing that the law and all that it calls make is longer than what came in: it says more and counts as full. Else prove '..UptoSaid'. A law counts once. -/
mutual
def uptoBulk {H : Type} : DataW H → Nat
  | .lit (.string bytes) => bytes.length + 1
  | .lit _ => 1
  | .nil => 1
  | .ptr d => uptoBulk d + 1
  | .slice elems spare => uptoBulkAll elems + uptoBulkAll spare + 1
  | .agg parts => uptoBulkAll parts + 1
  | .iface _ d => uptoBulk d + 1
  | .map entries => uptoBulkEntries entries + 1
  | .held _ => 1
def uptoBulkAll {H : Type} : List (DataW H) → Nat
  | [] => 0
  | d :: r => uptoBulk d + uptoBulkAll r
def uptoBulkEntries {H : Type} : List (Lit × DataW H) → Nat
  | [] => 0
  | x :: r => uptoBulkEntry x + uptoBulkEntries r
def uptoBulkEntry {H : Type} : Lit × DataW H → Nat
  | (.string bytes, d) => bytes.length + uptoBulk d + 1
  | (_, d) => uptoBulk d + 1
 end
def uptoSmall : (H : Type) → List (DataW H) → Bool := fun _ ds => decide (uptoBulkAll ds ≤ 1048576)
def OpenSpec.upto (s : _root_.Go.ChangeSpec) : _root_.Go.OpenSpec := { _root_.Go.OpenSpec.ofChange s with cond := some uptoSmall }

/-- 'gussetlaw26.RimsFine', WHERE WHAT IT READS IS OF BULK AT MOST 1048576: true; the input reads as it did. -/
def rimsFineUptoRow : OpenClaim := { program := "ytpgncndhhhllfaagreat", sum := "ff53f48e8a1411ef6054b43df815a6d996ebf327d571f770478dcef11d36e23c", func := "gusset/gussetlaw26.RimsFine", spec := "rimsFine", inPlace := ["math/bits.Add64"], unfollowed := true, recurses := true, named := ["math/bits.overflowError"], plainKeys := false, apart := false, narrowed := true }
def RimsFineUptoSaid : Prop := rimsFineUptoRow.holds Tryz.pinned (OpenSpec.upto rimsFineSpec)

/-- 'gussetlaw26.RimsAny', WHERE WHAT IT READS IS OF BULK AT MOST 1048576: true; the input reads as it did. -/
def rimsAnyUptoRow : OpenClaim := { program := "ytpgncndhhhllfaagreat", sum := "ff53f48e8a1411ef6054b43df815a6d996ebf327d571f770478dcef11d36e23c", func := "gusset/gussetlaw26.RimsAny", spec := "rimsAny", inPlace := ["math/bits.Add64"], unfollowed := true, recurses := true, named := ["math/bits.overflowError"], plainKeys := false, apart := false, narrowed := true }
def RimsAnyUptoSaid : Prop := rimsAnyUptoRow.holds Tryz.pinned (OpenSpec.upto rimsAnySpec)

end Rows
end Go.Proofs.YtpgncndhhhllfaaGreat
