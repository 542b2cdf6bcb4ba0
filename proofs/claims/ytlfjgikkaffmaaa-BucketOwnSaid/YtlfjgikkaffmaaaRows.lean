/-
  No cell of these rows narrows 'for every input' (looked for: loops, veiled, ifaces, maps, wideKeys, modest, calm, conditions, laid).
  DERIVED. THE GIVEN ROWS OF THIS SEAT. 6 by the template 'for every input the law returns true; each argument reads behind the call as it read before'; 0 by the template 'total and deterministic' (their statements: YtlfjgikkaffmaaaTotals.lean).
  GIVEN WITH THE SEED: the statements are not yours to turn. If you find one false, say at which input.
  Laid BY PROGRAM, IN A SANDBOX (cutbox-rows.mjs): the forced cells as the released guide's own fill.sh prints them over the translation f25500ac6b334692… (all of the seat's roots in one cut). By AI agents, Wed Nov 11 2026. No macro, syntax, notation, axiom, sorry.
-/
import Derived.Test.YtlfjgikkaffmaaaChecked
import GoSem.Claim
import GoSem.ClaimJoined
import GoSem.ClaimMapViews
import Derived.JoinedTies
import Derived.KernelRfl
namespace Go.Proofs.Ytlfjgikkaffmaaa
/- THE CELL 'sum', in the pinned program and in every row, IS THE sha256 OF THE DUMP (.gsa) THAT YtlfjgikkaffmaaaProg.lean LOADS. Nothing in Lean hashes anything: it is a label: what it is worth is what the hold of that sum in a sandbox is worth. -/
noncomputable def Try.pinned : Pinned := { name := "ytlfjgikkaffmaaa", sum := "f25500ac6b3346928cf7c5e87d5fa0db82336eaaef807ba5a780822d25927dd3", checked := Try.checked }
namespace Rows
def none {H : Type} : Left H := { results := [], args := [] }

/-- 'locketlaw13.BucketSizes': WHATEVER THE INPUT: true; the input reads as it did. -/
def bucketSizesSpec : ChangeSpec := { name := "bucketSizes", fn := fun _ => fun
  | [d1, d2] => { results := [.lit (.bool true)], args := [d1, d2] }
  | _ => none }
def bucketSizesRow : OpenClaim := { program := "ytlfjgikkaffmaaa", sum := "f25500ac6b3346928cf7c5e87d5fa0db82336eaaef807ba5a780822d25927dd3", func := "locket/locketlaw13.BucketSizes", spec := "bucketSizes", apart := false }
def BucketSizesSaid : Prop := bucketSizesRow.holds Try.pinned (OpenSpec.ofChange bucketSizesSpec)

/-- ITS FALSE NEIGHBOUR: 'it returns false'. Refute it at one input. -/
def bucketSizesWrong : ChangeSpec := { name := "bucketSizes", fn := fun _ => fun
  | [d1, d2] => { results := [.lit (.bool false)], args := [d1, d2] }
  | _ => none }
def BucketSizesWrongFalsely : Prop := bucketSizesRow.holds Try.pinned (OpenSpec.ofChange bucketSizesWrong)

/-- 'locketlaw13.BucketHides': WHATEVER THE INPUT: true; the input reads as it did. -/
def bucketHidesSpec : ChangeSpec := { name := "bucketHides", fn := fun _ => fun
  | [d1, d2] => { results := [.lit (.bool true)], args := [d1, d2] }
  | _ => none }
def bucketHidesRow : OpenClaim := { program := "ytlfjgikkaffmaaa", sum := "f25500ac6b3346928cf7c5e87d5fa0db82336eaaef807ba5a780822d25927dd3", func := "locket/locketlaw13.BucketHides", spec := "bucketHides", apart := false }
def BucketHidesSaid : Prop := bucketHidesRow.holds Try.pinned (OpenSpec.ofChange bucketHidesSpec)

/-- ITS FALSE NEIGHBOUR: 'it returns false'. Refute it at one input. -/
def bucketHidesWrong : ChangeSpec := { name := "bucketHides", fn := fun _ => fun
  | [d1, d2] => { results := [.lit (.bool false)], args := [d1, d2] }
  | _ => none }
def BucketHidesWrongFalsely : Prop := bucketHidesRow.holds Try.pinned (OpenSpec.ofChange bucketHidesWrong)

/-- 'locketlaw13.BucketPads': WHATEVER THE INPUT: true; the input reads as it did. -/
def bucketPadsSpec : ChangeSpec := { name := "bucketPads", fn := fun _ => fun
  | [d] => { results := [.lit (.bool true)], args := [d] }
  | _ => none }
def bucketPadsRow : OpenClaim := { program := "ytlfjgikkaffmaaa", sum := "f25500ac6b3346928cf7c5e87d5fa0db82336eaaef807ba5a780822d25927dd3", func := "locket/locketlaw13.BucketPads", spec := "bucketPads", apart := false }
def BucketPadsSaid : Prop := bucketPadsRow.holds Try.pinned (OpenSpec.ofChange bucketPadsSpec)

/-- ITS FALSE NEIGHBOUR: 'it returns false'. Refute it at one input. -/
def bucketPadsWrong : ChangeSpec := { name := "bucketPads", fn := fun _ => fun
  | [d] => { results := [.lit (.bool false)], args := [d] }
  | _ => none }
def BucketPadsWrongFalsely : Prop := bucketPadsRow.holds Try.pinned (OpenSpec.ofChange bucketPadsWrong)

/-- 'locketlaw13.BucketStrips': WHATEVER THE INPUT: true; the input reads as it did. -/
def bucketStripsSpec : ChangeSpec := { name := "bucketStrips", fn := fun _ => fun
  | [d] => { results := [.lit (.bool true)], args := [d] }
  | _ => none }
def bucketStripsRow : OpenClaim := { program := "ytlfjgikkaffmaaa", sum := "f25500ac6b3346928cf7c5e87d5fa0db82336eaaef807ba5a780822d25927dd3", func := "locket/locketlaw13.BucketStrips", spec := "bucketStrips", apart := false }
def BucketStripsSaid : Prop := bucketStripsRow.holds Try.pinned (OpenSpec.ofChange bucketStripsSpec)

/-- ITS FALSE NEIGHBOUR: 'it returns false'. Refute it at one input. -/
def bucketStripsWrong : ChangeSpec := { name := "bucketStrips", fn := fun _ => fun
  | [d] => { results := [.lit (.bool false)], args := [d] }
  | _ => none }
def BucketStripsWrongFalsely : Prop := bucketStripsRow.holds Try.pinned (OpenSpec.ofChange bucketStripsWrong)

/-- 'locketlaw13.BucketTail': WHATEVER THE INPUT: true; the input reads as it did. -/
def bucketTailSpec : ChangeSpec := { name := "bucketTail", fn := fun _ => fun
  | [d1, d2, d3] => { results := [.lit (.bool true)], args := [d1, d2, d3] }
  | _ => none }
def bucketTailRow : OpenClaim := { program := "ytlfjgikkaffmaaa", sum := "f25500ac6b3346928cf7c5e87d5fa0db82336eaaef807ba5a780822d25927dd3", func := "locket/locketlaw13.BucketTail", spec := "bucketTail", apart := false }
def BucketTailSaid : Prop := bucketTailRow.holds Try.pinned (OpenSpec.ofChange bucketTailSpec)

/-- ITS FALSE NEIGHBOUR: 'it returns false'. Refute it at one input. -/
def bucketTailWrong : ChangeSpec := { name := "bucketTail", fn := fun _ => fun
  | [d1, d2, d3] => { results := [.lit (.bool false)], args := [d1, d2, d3] }
  | _ => none }
def BucketTailWrongFalsely : Prop := bucketTailRow.holds Try.pinned (OpenSpec.ofChange bucketTailWrong)

/-- 'locketlaw13.BucketOwn': WHATEVER THE INPUT: true; the input reads as it did. -/
def bucketOwnSpec : ChangeSpec := { name := "bucketOwn", fn := fun _ => fun
  | [d] => { results := [.lit (.bool true)], args := [d] }
  | _ => none }
def bucketOwnRow : OpenClaim := { program := "ytlfjgikkaffmaaa", sum := "f25500ac6b3346928cf7c5e87d5fa0db82336eaaef807ba5a780822d25927dd3", func := "locket/locketlaw13.BucketOwn", spec := "bucketOwn", apart := false }
def BucketOwnSaid : Prop := bucketOwnRow.holds Try.pinned (OpenSpec.ofChange bucketOwnSpec)

/-- ITS FALSE NEIGHBOUR: 'it returns false'. Refute it at one input. -/
def bucketOwnWrong : ChangeSpec := { name := "bucketOwn", fn := fun _ => fun
  | [d] => { results := [.lit (.bool false)], args := [d] }
  | _ => none }
def BucketOwnWrongFalsely : Prop := bucketOwnRow.holds Try.pinned (OpenSpec.ofChange bucketOwnWrong)

/- THE SECOND FORM. 'bulk': how many values and letters a reading holds, each counted each time it is reached (what is shared counts as often as it is met; a slice's spare places count too). A statement '..UptoSaid' is the law's where the arguments, and the package variables that the reading takes, are together of bulk at most 1048576: NARROWER than '..Said'. Prove '..Said' where nothing that the law and all that it calls make is longer than what came in: it says more and counts as full. Else prove '..UptoSaid'. A law counts once. -/
mutual
def uptoBulk {H : Type} : DataW H → Nat
  | .lit (.string bytes) => bytes.length + 1
  | .lit _ => 1
  | .nil => 1
  | .ptr d => uptoBulk d + 1
  | .slice elems spare => uptoBulkAll elems + uptoBulkAll spare + 1
  | .agg parts => uptoBulkAll parts + 1
  | .iface _ d => uptoBulk d + 1
  | .map entries => uptoBulkEntries entries + 1
  | .held _ => 1
def uptoBulkAll {H : Type} : List (DataW H) → Nat
  | [] => 0
  | d :: r => uptoBulk d + uptoBulkAll r
def uptoBulkEntries {H : Type} : List (Lit × DataW H) → Nat
  | [] => 0
  | x :: r => uptoBulkEntry x + uptoBulkEntries r
def uptoBulkEntry {H : Type} : Lit × DataW H → Nat
  | (.string bytes, d) => bytes.length + uptoBulk d + 1
  | (_, d) => uptoBulk d + 1
 end
def uptoSmall : (H : Type) → List (DataW H) → Bool := fun _ ds => decide (uptoBulkAll ds ≤ 1048576)
def OpenSpec.upto (s : _root_.Go.ChangeSpec) : _root_.Go.OpenSpec := { _root_.Go.OpenSpec.ofChange s with cond := some uptoSmall }

/-- 'locketlaw13.BucketSizes', WHERE WHAT IT READS IS OF BULK AT MOST 1048576: true; the input reads as it did. -/
def bucketSizesUptoRow : OpenClaim := { program := "ytlfjgikkaffmaaa", sum := "f25500ac6b3346928cf7c5e87d5fa0db82336eaaef807ba5a780822d25927dd3", func := "locket/locketlaw13.BucketSizes", spec := "bucketSizes", apart := false, narrowed := true }
def BucketSizesUptoSaid : Prop := bucketSizesUptoRow.holds Try.pinned (OpenSpec.upto bucketSizesSpec)

/-- 'locketlaw13.BucketHides', WHERE WHAT IT READS IS OF BULK AT MOST 1048576: true; the input reads as it did. -/
def bucketHidesUptoRow : OpenClaim := { program := "ytlfjgikkaffmaaa", sum := "f25500ac6b3346928cf7c5e87d5fa0db82336eaaef807ba5a780822d25927dd3", func := "locket/locketlaw13.BucketHides", spec := "bucketHides", apart := false, narrowed := true }
def BucketHidesUptoSaid : Prop := bucketHidesUptoRow.holds Try.pinned (OpenSpec.upto bucketHidesSpec)

/-- 'locketlaw13.BucketPads', WHERE WHAT IT READS IS OF BULK AT MOST 1048576: true; the input reads as it did. -/
def bucketPadsUptoRow : OpenClaim := { program := "ytlfjgikkaffmaaa", sum := "f25500ac6b3346928cf7c5e87d5fa0db82336eaaef807ba5a780822d25927dd3", func := "locket/locketlaw13.BucketPads", spec := "bucketPads", apart := false, narrowed := true }
def BucketPadsUptoSaid : Prop := bucketPadsUptoRow.holds Try.pinned (OpenSpec.upto bucketPadsSpec)

/-- 'locketlaw13.BucketStrips', WHERE WHAT IT READS IS OF BULK AT MOST 1048576: true; the input reads as it did. -/
def bucketStripsUptoRow : OpenClaim := { program := "ytlfjgikkaffmaaa", sum := "f25500ac6b3346928cf7c5e87d5fa0db82336eaaef807ba5a780822d25927dd3", func := "locket/locketlaw13.BucketStrips", spec := "bucketStrips", apart := false, narrowed := true }
def BucketStripsUptoSaid : Prop := bucketStripsUptoRow.holds Try.pinned (OpenSpec.upto bucketStripsSpec)

/-- 'locketlaw13.BucketTail', WHERE WHAT IT READS IS OF BULK AT MOST 1048576: true; the input reads as it did. -/
def bucketTailUptoRow : OpenClaim := { program := "ytlfjgikkaffmaaa", sum := "f25500ac6b3346928cf7c5e87d5fa0db82336eaaef807ba5a780822d25927dd3", func := "locket/locketlaw13.BucketTail", spec := "bucketTail", apart := false, narrowed := true }
def BucketTailUptoSaid : Prop := bucketTailUptoRow.holds Try.pinned (OpenSpec.upto bucketTailSpec)

/-- 'locketlaw13.BucketOwn', WHERE WHAT IT READS IS OF BULK AT MOST 1048576: true; the input reads as it did. -/
def bucketOwnUptoRow : OpenClaim := { program := "ytlfjgikkaffmaaa", sum := "f25500ac6b3346928cf7c5e87d5fa0db82336eaaef807ba5a780822d25927dd3", func := "locket/locketlaw13.BucketOwn", spec := "bucketOwn", apart := false, narrowed := true }
def BucketOwnUptoSaid : Prop := bucketOwnUptoRow.holds Try.pinned (OpenSpec.upto bucketOwnSpec)

end Rows
end Go.Proofs.Ytlfjgikkaffmaaa
