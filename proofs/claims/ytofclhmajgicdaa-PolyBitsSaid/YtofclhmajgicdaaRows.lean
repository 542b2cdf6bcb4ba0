/-
  No cell of these rows narrows 'for every input' (looked for: loops, veiled, ifaces, maps, wideKeys, modest, calm, conditions, laid).
  DERIVED. THE GIVEN ROWS OF THIS SEAT. 6 by the template 'for every input the law returns true; each argument reads behind the call as it read before'; 0 by the template 'total and deterministic' (their statements: YtofclhmajgicdaaTotals.lean).
  GIVEN WITH THE SEED: the statements are not yours to turn. If you find one false, say at which input.
  Laid BY PROGRAM, IN A SANDBOX (cutbox-rows.mjs): the forced cells as the released guide's own fill.sh prints them over the translation b649661c059c11e6… (all of the seat's roots in one cut). By AI agents, Wed Nov 11 2026. No macro, syntax, notation, axiom, sorry.
-/
import Derived.Test.YtofclhmajgicdaaChecked
import GoSem.Claim
import GoSem.ClaimJoined
import GoSem.ClaimMapViews
import Derived.JoinedTies
import Derived.KernelRfl
namespace Go.Proofs.Ytofclhmajgicdaa
/- THE CELL 'sum', in the pinned program and in every row, IS THE sha256 OF THE DUMP (.gsa) THAT YtofclhmajgicdaaProg.lean LOADS. Nothing in Lean hashes anything: it is a label: what it is worth is what the hold of that sum in a sandbox is worth. -/
noncomputable def Try.pinned : Pinned := { name := "ytofclhmajgicdaa", sum := "b649661c059c11e6692c3175b392e991e6a9f2a50a3558a082d7fef4d79e00c1", checked := Try.checked }
namespace Rows
def none {H : Type} : Left H := { results := [], args := [] }

/-- 'locketlaw04.PolyTags': WHATEVER THE INPUT: true; the input reads as it did. -/
def polyTagsSpec : ChangeSpec := { name := "polyTags", fn := fun _ => fun
  | [d1, d2] => { results := [.lit (.bool true)], args := [d1, d2] }
  | _ => none }
def polyTagsRow : OpenClaim := { program := "ytofclhmajgicdaa", sum := "b649661c059c11e6692c3175b392e991e6a9f2a50a3558a082d7fef4d79e00c1", func := "locket/locketlaw04.PolyTags", spec := "polyTags", inPlace := ["math/bits.Add64"], apart := false }
def PolyTagsSaid : Prop := polyTagsRow.holds Try.pinned (OpenSpec.ofChange polyTagsSpec)

/-- ITS FALSE NEIGHBOUR: 'it returns false'. Refute it at one input. -/
def polyTagsWrong : ChangeSpec := { name := "polyTags", fn := fun _ => fun
  | [d1, d2] => { results := [.lit (.bool false)], args := [d1, d2] }
  | _ => none }
def PolyTagsWrongFalsely : Prop := polyTagsRow.holds Try.pinned (OpenSpec.ofChange polyTagsWrong)

/-- 'locketlaw04.PolyEdges': WHATEVER THE INPUT: true; the input reads as it did. -/
def polyEdgesSpec : ChangeSpec := { name := "polyEdges", fn := fun _ => fun
  | [d1, d2, d3, d4] => { results := [.lit (.bool true)], args := [d1, d2, d3, d4] }
  | _ => none }
def polyEdgesRow : OpenClaim := { program := "ytofclhmajgicdaa", sum := "b649661c059c11e6692c3175b392e991e6a9f2a50a3558a082d7fef4d79e00c1", func := "locket/locketlaw04.PolyEdges", spec := "polyEdges", inPlace := ["math/bits.Add64"], apart := false }
def PolyEdgesSaid : Prop := polyEdgesRow.holds Try.pinned (OpenSpec.ofChange polyEdgesSpec)

/-- ITS FALSE NEIGHBOUR: 'it returns false'. Refute it at one input. -/
def polyEdgesWrong : ChangeSpec := { name := "polyEdges", fn := fun _ => fun
  | [d1, d2, d3, d4] => { results := [.lit (.bool false)], args := [d1, d2, d3, d4] }
  | _ => none }
def PolyEdgesWrongFalsely : Prop := polyEdgesRow.holds Try.pinned (OpenSpec.ofChange polyEdgesWrong)

/-- 'locketlaw04.PolySecond': WHATEVER THE INPUT: true; the input reads as it did. -/
def polySecondSpec : ChangeSpec := { name := "polySecond", fn := fun _ => fun
  | [d1, d2, d3, d4] => { results := [.lit (.bool true)], args := [d1, d2, d3, d4] }
  | _ => none }
def polySecondRow : OpenClaim := { program := "ytofclhmajgicdaa", sum := "b649661c059c11e6692c3175b392e991e6a9f2a50a3558a082d7fef4d79e00c1", func := "locket/locketlaw04.PolySecond", spec := "polySecond", inPlace := ["math/bits.Add64"], apart := false }
def PolySecondSaid : Prop := polySecondRow.holds Try.pinned (OpenSpec.ofChange polySecondSpec)

/-- ITS FALSE NEIGHBOUR: 'it returns false'. Refute it at one input. -/
def polySecondWrong : ChangeSpec := { name := "polySecond", fn := fun _ => fun
  | [d1, d2, d3, d4] => { results := [.lit (.bool false)], args := [d1, d2, d3, d4] }
  | _ => none }
def PolySecondWrongFalsely : Prop := polySecondRow.holds Try.pinned (OpenSpec.ofChange polySecondWrong)

/-- 'locketlaw04.PolyBits': WHATEVER THE INPUT: true; the input reads as it did. -/
def polyBitsSpec : ChangeSpec := { name := "polyBits", fn := fun _ => fun
  | [d1, d2, d3] => { results := [.lit (.bool true)], args := [d1, d2, d3] }
  | _ => none }
def polyBitsRow : OpenClaim := { program := "ytofclhmajgicdaa", sum := "b649661c059c11e6692c3175b392e991e6a9f2a50a3558a082d7fef4d79e00c1", func := "locket/locketlaw04.PolyBits", spec := "polyBits", inPlace := ["math/bits.Add64"], apart := false }
def PolyBitsSaid : Prop := polyBitsRow.holds Try.pinned (OpenSpec.ofChange polyBitsSpec)

/-- ITS FALSE NEIGHBOUR: 'it returns false'. Refute it at one input. -/
def polyBitsWrong : ChangeSpec := { name := "polyBits", fn := fun _ => fun
  | [d1, d2, d3] => { results := [.lit (.bool false)], args := [d1, d2, d3] }
  | _ => none }
def PolyBitsWrongFalsely : Prop := polyBitsRow.holds Try.pinned (OpenSpec.ofChange polyBitsWrong)

/-- 'locketlaw04.PolyNought': WHATEVER THE INPUT: true; the input reads as it did. -/
def polyNoughtSpec : ChangeSpec := { name := "polyNought", fn := fun _ => fun
  | [d1, d2] => { results := [.lit (.bool true)], args := [d1, d2] }
  | _ => none }
def polyNoughtRow : OpenClaim := { program := "ytofclhmajgicdaa", sum := "b649661c059c11e6692c3175b392e991e6a9f2a50a3558a082d7fef4d79e00c1", func := "locket/locketlaw04.PolyNought", spec := "polyNought", inPlace := ["math/bits.Add64"], apart := false }
def PolyNoughtSaid : Prop := polyNoughtRow.holds Try.pinned (OpenSpec.ofChange polyNoughtSpec)

/-- ITS FALSE NEIGHBOUR: 'it returns false'. Refute it at one input. -/
def polyNoughtWrong : ChangeSpec := { name := "polyNought", fn := fun _ => fun
  | [d1, d2] => { results := [.lit (.bool false)], args := [d1, d2] }
  | _ => none }
def PolyNoughtWrongFalsely : Prop := polyNoughtRow.holds Try.pinned (OpenSpec.ofChange polyNoughtWrong)

/-- 'locketlaw04.PolyOne': WHATEVER THE INPUT: true; the input reads as it did. -/
def polyOneSpec : ChangeSpec := { name := "polyOne", fn := fun _ => fun
  | [d1, d2] => { results := [.lit (.bool true)], args := [d1, d2] }
  | _ => none }
def polyOneRow : OpenClaim := { program := "ytofclhmajgicdaa", sum := "b649661c059c11e6692c3175b392e991e6a9f2a50a3558a082d7fef4d79e00c1", func := "locket/locketlaw04.PolyOne", spec := "polyOne", inPlace := ["math/bits.Add64"], apart := false }
def PolyOneSaid : Prop := polyOneRow.holds Try.pinned (OpenSpec.ofChange polyOneSpec)

/-- ITS FALSE NEIGHBOUR: 'it returns false'. Refute it at one input. -/
def polyOneWrong : ChangeSpec := { name := "polyOne", fn := fun _ => fun
  | [d1, d2] => { results := [.lit (.bool false)], args := [d1, d2] }
  | _ => none }
def PolyOneWrongFalsely : Prop := polyOneRow.holds Try.pinned (OpenSpec.ofChange polyOneWrong)

/- THE SECOND FORM. 'bulk': how many values and letters a reading holds, each counted each time it is reached (what is shared counts as often as it is met; a slice's spare places count too). A statement '..UptoSaid' is the law's where the arguments, and the package variables that the reading takes, are together of bulk at most 1048576: NARROWER than '..Said'. Prove '..Said' where nothing that the law and all that it calls make is longer than what came in: it says more and counts as full. Else prove '..UptoSaid'. A law counts once. -/
mutual
def uptoBulk {H : Type} : DataW H → Nat
  | .lit (.string bytes) => bytes.length + 1
  | .lit _ => 1
  | .nil => 1
  | .ptr d => uptoBulk d + 1
  | .slice elems spare => uptoBulkAll elems + uptoBulkAll spare + 1
  | .agg parts => uptoBulkAll parts + 1
  | .iface _ d => uptoBulk d + 1
  | .map entries => uptoBulkEntries entries + 1
  | .held _ => 1
def uptoBulkAll {H : Type} : List (DataW H) → Nat
  | [] => 0
  | d :: r => uptoBulk d + uptoBulkAll r
def uptoBulkEntries {H : Type} : List (Lit × DataW H) → Nat
  | [] => 0
  | x :: r => uptoBulkEntry x + uptoBulkEntries r
def uptoBulkEntry {H : Type} : Lit × DataW H → Nat
  | (.string bytes, d) => bytes.length + uptoBulk d + 1
  | (_, d) => uptoBulk d + 1
 end
def uptoSmall : (H : Type) → List (DataW H) → Bool := fun _ ds => decide (uptoBulkAll ds ≤ 1048576)
def OpenSpec.upto (s : _root_.Go.ChangeSpec) : _root_.Go.OpenSpec := { _root_.Go.OpenSpec.ofChange s with cond := some uptoSmall }

/-- 'locketlaw04.PolyTags', WHERE WHAT IT READS IS OF BULK AT MOST 1048576: true; the input reads as it did. -/
def polyTagsUptoRow : OpenClaim := { program := "ytofclhmajgicdaa", sum := "b649661c059c11e6692c3175b392e991e6a9f2a50a3558a082d7fef4d79e00c1", func := "locket/locketlaw04.PolyTags", spec := "polyTags", inPlace := ["math/bits.Add64"], apart := false, narrowed := true }
def PolyTagsUptoSaid : Prop := polyTagsUptoRow.holds Try.pinned (OpenSpec.upto polyTagsSpec)

/-- 'locketlaw04.PolyEdges', WHERE WHAT IT READS IS OF BULK AT MOST 1048576: true; the input reads as it did. -/
def polyEdgesUptoRow : OpenClaim := { program := "ytofclhmajgicdaa", sum := "b649661c059c11e6692c3175b392e991e6a9f2a50a3558a082d7fef4d79e00c1", func := "locket/locketlaw04.PolyEdges", spec := "polyEdges", inPlace := ["math/bits.Add64"], apart := false, narrowed := true }
def PolyEdgesUptoSaid : Prop := polyEdgesUptoRow.holds Try.pinned (OpenSpec.upto polyEdgesSpec)

/-- 'locketlaw04.PolySecond', WHERE WHAT IT READS IS OF BULK AT MOST 1048576: true; the input reads as it did. -/
def polySecondUptoRow : OpenClaim := { program := "ytofclhmajgicdaa", sum := "b649661c059c11e6692c3175b392e991e6a9f2a50a3558a082d7fef4d79e00c1", func := "locket/locketlaw04.PolySecond", spec := "polySecond", inPlace := ["math/bits.Add64"], apart := false, narrowed := true }
def PolySecondUptoSaid : Prop := polySecondUptoRow.holds Try.pinned (OpenSpec.upto polySecondSpec)

/-- 'locketlaw04.PolyBits', WHERE WHAT IT READS IS OF BULK AT MOST 1048576: true; the input reads as it did. -/
def polyBitsUptoRow : OpenClaim := { program := "ytofclhmajgicdaa", sum := "b649661c059c11e6692c3175b392e991e6a9f2a50a3558a082d7fef4d79e00c1", func := "locket/locketlaw04.PolyBits", spec := "polyBits", inPlace := ["math/bits.Add64"], apart := false, narrowed := true }
def PolyBitsUptoSaid : Prop := polyBitsUptoRow.holds Try.pinned (OpenSpec.upto polyBitsSpec)

/-- 'locketlaw04.PolyNought', WHERE WHAT IT READS IS OF BULK AT MOST 1048576: true; the input reads as it did. -/
def polyNoughtUptoRow : OpenClaim := { program := "ytofclhmajgicdaa", sum := "b649661c059c11e6692c3175b392e991e6a9f2a50a3558a082d7fef4d79e00c1", func := "locket/locketlaw04.PolyNought", spec := "polyNought", inPlace := ["math/bits.Add64"], apart := false, narrowed := true }
def PolyNoughtUptoSaid : Prop := polyNoughtUptoRow.holds Try.pinned (OpenSpec.upto polyNoughtSpec)

/-- 'locketlaw04.PolyOne', WHERE WHAT IT READS IS OF BULK AT MOST 1048576: true; the input reads as it did. -/
def polyOneUptoRow : OpenClaim := { program := "ytofclhmajgicdaa", sum := "b649661c059c11e6692c3175b392e991e6a9f2a50a3558a082d7fef4d79e00c1", func := "locket/locketlaw04.PolyOne", spec := "polyOne", inPlace := ["math/bits.Add64"], apart := false, narrowed := true }
def PolyOneUptoSaid : Prop := polyOneUptoRow.holds Try.pinned (OpenSpec.upto polyOneSpec)

end Rows
end Go.Proofs.Ytofclhmajgicdaa
