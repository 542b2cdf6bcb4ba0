/-
  No cell of these rows narrows 'for every input' (looked for: loops, veiled, ifaces, maps, wideKeys, modest, calm, conditions, laid).
  DERIVED. THE GIVEN ROWS OF THIS SEAT. 6 by the template 'for every input the law returns true; each argument reads behind the call as it read before'; 0 by the template 'total and deterministic' (their statements: YtieaebbnmebbfaaTotals.lean).
  GIVEN WITH THE SEED: the statements are not yours to turn. If you find one false, say at which input.
  Laid BY PROGRAM, IN A SANDBOX (cutbox-rows.mjs): the forced cells as the released guide's own fill.sh prints them over the translation 0b03b7fc65a5c151… (all of the seat's roots in one cut). By AI agents, Wed Nov 11 2026. No macro, syntax, notation, axiom, sorry.
-/
import Derived.Test.YtieaebbnmebbfaaChecked
import GoSem.Claim
import GoSem.ClaimJoined
import GoSem.ClaimMapViews
import Derived.JoinedTies
import Derived.KernelRfl
namespace Go.Proofs.Ytieaebbnmebbfaa
/- THE CELL 'sum', in the pinned program and in every row, IS THE sha256 OF THE DUMP (.gsa) THAT YtieaebbnmebbfaaProg.lean LOADS. Nothing in Lean hashes anything: it is a label: what it is worth is what the hold of that sum in a sandbox is worth. -/
noncomputable def Try.pinned : Pinned := { name := "ytieaebbnmebbfaa", sum := "0b03b7fc65a5c15198ff0872cba9a28b22e3bc202b8894485d4bb06845b2d47f", checked := Try.checked }
namespace Rows
def none {H : Type} : Left H := { results := [], args := [] }

/-- 'locketlaw06.TallyMakes': WHATEVER THE INPUT: true; the input reads as it did. -/
def tallyMakesSpec : ChangeSpec := { name := "tallyMakes", fn := fun _ => fun
  | [d] => { results := [.lit (.bool true)], args := [d] }
  | _ => none }
def tallyMakesRow : OpenClaim := { program := "ytieaebbnmebbfaa", sum := "0b03b7fc65a5c15198ff0872cba9a28b22e3bc202b8894485d4bb06845b2d47f", func := "locket/locketlaw06.TallyMakes", spec := "tallyMakes", inPlace := ["math.archTrunc", "math.Float64bits", "math.Float64frombits"], apart := false }
def TallyMakesSaid : Prop := tallyMakesRow.holds Try.pinned (OpenSpec.ofChange tallyMakesSpec)

/-- ITS FALSE NEIGHBOUR: 'it returns false'. Refute it at one input. -/
def tallyMakesWrong : ChangeSpec := { name := "tallyMakes", fn := fun _ => fun
  | [d] => { results := [.lit (.bool false)], args := [d] }
  | _ => none }
def TallyMakesWrongFalsely : Prop := tallyMakesRow.holds Try.pinned (OpenSpec.ofChange tallyMakesWrong)

/-- 'locketlaw06.TallyEnds': WHATEVER THE INPUT: true; the input reads as it did. -/
def tallyEndsSpec : ChangeSpec := { name := "tallyEnds", fn := fun _ => fun
  | [d1, d2] => { results := [.lit (.bool true)], args := [d1, d2] }
  | _ => none }
def tallyEndsRow : OpenClaim := { program := "ytieaebbnmebbfaa", sum := "0b03b7fc65a5c15198ff0872cba9a28b22e3bc202b8894485d4bb06845b2d47f", func := "locket/locketlaw06.TallyEnds", spec := "tallyEnds", inPlace := ["math.archTrunc", "math.Float64bits", "math.Float64frombits"], apart := false }
def TallyEndsSaid : Prop := tallyEndsRow.holds Try.pinned (OpenSpec.ofChange tallyEndsSpec)

/-- ITS FALSE NEIGHBOUR: 'it returns false'. Refute it at one input. -/
def tallyEndsWrong : ChangeSpec := { name := "tallyEnds", fn := fun _ => fun
  | [d1, d2] => { results := [.lit (.bool false)], args := [d1, d2] }
  | _ => none }
def TallyEndsWrongFalsely : Prop := tallyEndsRow.holds Try.pinned (OpenSpec.ofChange tallyEndsWrong)

/-- 'locketlaw06.TallyOrder': WHATEVER THE INPUT: true; the input reads as it did. -/
def tallyOrderSpec : ChangeSpec := { name := "tallyOrder", fn := fun _ => fun
  | [d1, d2] => { results := [.lit (.bool true)], args := [d1, d2] }
  | _ => none }
def tallyOrderRow : OpenClaim := { program := "ytieaebbnmebbfaa", sum := "0b03b7fc65a5c15198ff0872cba9a28b22e3bc202b8894485d4bb06845b2d47f", func := "locket/locketlaw06.TallyOrder", spec := "tallyOrder", inPlace := ["math.archTrunc", "math.Float64bits", "math.Float64frombits"], apart := false }
def TallyOrderSaid : Prop := tallyOrderRow.holds Try.pinned (OpenSpec.ofChange tallyOrderSpec)

/-- ITS FALSE NEIGHBOUR: 'it returns false'. Refute it at one input. -/
def tallyOrderWrong : ChangeSpec := { name := "tallyOrder", fn := fun _ => fun
  | [d1, d2] => { results := [.lit (.bool false)], args := [d1, d2] }
  | _ => none }
def TallyOrderWrongFalsely : Prop := tallyOrderRow.holds Try.pinned (OpenSpec.ofChange tallyOrderWrong)

/-- 'locketlaw06.TallySums': WHATEVER THE INPUT: true; the input reads as it did. -/
def tallySumsSpec : ChangeSpec := { name := "tallySums", fn := fun _ => fun
  | [d1, d2] => { results := [.lit (.bool true)], args := [d1, d2] }
  | _ => none }
def tallySumsRow : OpenClaim := { program := "ytieaebbnmebbfaa", sum := "0b03b7fc65a5c15198ff0872cba9a28b22e3bc202b8894485d4bb06845b2d47f", func := "locket/locketlaw06.TallySums", spec := "tallySums", inPlace := ["math.archTrunc", "math.Float64bits", "math.Float64frombits"], apart := false }
def TallySumsSaid : Prop := tallySumsRow.holds Try.pinned (OpenSpec.ofChange tallySumsSpec)

/-- ITS FALSE NEIGHBOUR: 'it returns false'. Refute it at one input. -/
def tallySumsWrong : ChangeSpec := { name := "tallySums", fn := fun _ => fun
  | [d1, d2] => { results := [.lit (.bool false)], args := [d1, d2] }
  | _ => none }
def TallySumsWrongFalsely : Prop := tallySumsRow.holds Try.pinned (OpenSpec.ofChange tallySumsWrong)

/-- 'locketlaw06.TallySteps': WHATEVER THE INPUT: true; the input reads as it did. -/
def tallyStepsSpec : ChangeSpec := { name := "tallySteps", fn := fun _ => fun
  | [d1, d2] => { results := [.lit (.bool true)], args := [d1, d2] }
  | _ => none }
def tallyStepsRow : OpenClaim := { program := "ytieaebbnmebbfaa", sum := "0b03b7fc65a5c15198ff0872cba9a28b22e3bc202b8894485d4bb06845b2d47f", func := "locket/locketlaw06.TallySteps", spec := "tallySteps", inPlace := ["math.archTrunc", "math.Float64bits", "math.Float64frombits"], apart := false }
def TallyStepsSaid : Prop := tallyStepsRow.holds Try.pinned (OpenSpec.ofChange tallyStepsSpec)

/-- ITS FALSE NEIGHBOUR: 'it returns false'. Refute it at one input. -/
def tallyStepsWrong : ChangeSpec := { name := "tallySteps", fn := fun _ => fun
  | [d1, d2] => { results := [.lit (.bool false)], args := [d1, d2] }
  | _ => none }
def TallyStepsWrongFalsely : Prop := tallyStepsRow.holds Try.pinned (OpenSpec.ofChange tallyStepsWrong)

/-- 'locketlaw06.TallyForms': WHATEVER THE INPUT: true; the input reads as it did. -/
def tallyFormsSpec : ChangeSpec := { name := "tallyForms", fn := fun _ => fun
  | [d1, d2] => { results := [.lit (.bool true)], args := [d1, d2] }
  | _ => none }
def tallyFormsRow : OpenClaim := { program := "ytieaebbnmebbfaa", sum := "0b03b7fc65a5c15198ff0872cba9a28b22e3bc202b8894485d4bb06845b2d47f", func := "locket/locketlaw06.TallyForms", spec := "tallyForms", inPlace := ["math.archTrunc", "math.Float64bits", "math.Float64frombits"], unfollowed := true, recurses := true, apart := false }
def TallyFormsSaid : Prop := tallyFormsRow.holds Try.pinned (OpenSpec.ofChange tallyFormsSpec)

/-- ITS FALSE NEIGHBOUR: 'it returns false'. Refute it at one input. -/
def tallyFormsWrong : ChangeSpec := { name := "tallyForms", fn := fun _ => fun
  | [d1, d2] => { results := [.lit (.bool false)], args := [d1, d2] }
  | _ => none }
def TallyFormsWrongFalsely : Prop := tallyFormsRow.holds Try.pinned (OpenSpec.ofChange tallyFormsWrong)

/- THE SECOND FORM. 'bulk': how many values and letters a reading holds, each counted each time it is reached (what is shared counts as often as it is met; a slice's spare places count too). A statement '..UptoSaid' is the law's where the arguments, and the package variables that the reading takes, are together of bulk at most 1048576: NARROWER than '..Said'. Prove '..Said' where nothing that the law and all that it calls make is longer than what came in: it says more and counts as full. Else prove '..UptoSaid'. A law counts once. -/
mutual
def uptoBulk {H : Type} : DataW H → Nat
  | .lit (.string bytes) => bytes.length + 1
  | .lit _ => 1
  | .nil => 1
  | .ptr d => uptoBulk d + 1
  | .slice elems spare => uptoBulkAll elems + uptoBulkAll spare + 1
  | .agg parts => uptoBulkAll parts + 1
  | .iface _ d => uptoBulk d + 1
  | .map entries => uptoBulkEntries entries + 1
  | .held _ => 1
def uptoBulkAll {H : Type} : List (DataW H) → Nat
  | [] => 0
  | d :: r => uptoBulk d + uptoBulkAll r
def uptoBulkEntries {H : Type} : List (Lit × DataW H) → Nat
  | [] => 0
  | x :: r => uptoBulkEntry x + uptoBulkEntries r
def uptoBulkEntry {H : Type} : Lit × DataW H → Nat
  | (.string bytes, d) => bytes.length + uptoBulk d + 1
  | (_, d) => uptoBulk d + 1
 end
def uptoSmall : (H : Type) → List (DataW H) → Bool := fun _ ds => decide (uptoBulkAll ds ≤ 1048576)
def OpenSpec.upto (s : _root_.Go.ChangeSpec) : _root_.Go.OpenSpec := { _root_.Go.OpenSpec.ofChange s with cond := some uptoSmall }

/-- 'locketlaw06.TallyMakes', WHERE WHAT IT READS IS OF BULK AT MOST 1048576: true; the input reads as it did. -/
def tallyMakesUptoRow : OpenClaim := { program := "ytieaebbnmebbfaa", sum := "0b03b7fc65a5c15198ff0872cba9a28b22e3bc202b8894485d4bb06845b2d47f", func := "locket/locketlaw06.TallyMakes", spec := "tallyMakes", inPlace := ["math.archTrunc", "math.Float64bits", "math.Float64frombits"], apart := false, narrowed := true }
def TallyMakesUptoSaid : Prop := tallyMakesUptoRow.holds Try.pinned (OpenSpec.upto tallyMakesSpec)

/-- 'locketlaw06.TallyEnds', WHERE WHAT IT READS IS OF BULK AT MOST 1048576: true; the input reads as it did. -/
def tallyEndsUptoRow : OpenClaim := { program := "ytieaebbnmebbfaa", sum := "0b03b7fc65a5c15198ff0872cba9a28b22e3bc202b8894485d4bb06845b2d47f", func := "locket/locketlaw06.TallyEnds", spec := "tallyEnds", inPlace := ["math.archTrunc", "math.Float64bits", "math.Float64frombits"], apart := false, narrowed := true }
def TallyEndsUptoSaid : Prop := tallyEndsUptoRow.holds Try.pinned (OpenSpec.upto tallyEndsSpec)

/-- 'locketlaw06.TallyOrder', WHERE WHAT IT READS IS OF BULK AT MOST 1048576: true; the input reads as it did. -/
def tallyOrderUptoRow : OpenClaim := { program := "ytieaebbnmebbfaa", sum := "0b03b7fc65a5c15198ff0872cba9a28b22e3bc202b8894485d4bb06845b2d47f", func := "locket/locketlaw06.TallyOrder", spec := "tallyOrder", inPlace := ["math.archTrunc", "math.Float64bits", "math.Float64frombits"], apart := false, narrowed := true }
def TallyOrderUptoSaid : Prop := tallyOrderUptoRow.holds Try.pinned (OpenSpec.upto tallyOrderSpec)

/-- 'locketlaw06.TallySums', WHERE WHAT IT READS IS OF BULK AT MOST 1048576: true; the input reads as it did. -/
def tallySumsUptoRow : OpenClaim := { program := "ytieaebbnmebbfaa", sum := "0b03b7fc65a5c15198ff0872cba9a28b22e3bc202b8894485d4bb06845b2d47f", func := "locket/locketlaw06.TallySums", spec := "tallySums", inPlace := ["math.archTrunc", "math.Float64bits", "math.Float64frombits"], apart := false, narrowed := true }
def TallySumsUptoSaid : Prop := tallySumsUptoRow.holds Try.pinned (OpenSpec.upto tallySumsSpec)

/-- 'locketlaw06.TallySteps', WHERE WHAT IT READS IS OF BULK AT MOST 1048576: true; the input reads as it did. -/
def tallyStepsUptoRow : OpenClaim := { program := "ytieaebbnmebbfaa", sum := "0b03b7fc65a5c15198ff0872cba9a28b22e3bc202b8894485d4bb06845b2d47f", func := "locket/locketlaw06.TallySteps", spec := "tallySteps", inPlace := ["math.archTrunc", "math.Float64bits", "math.Float64frombits"], apart := false, narrowed := true }
def TallyStepsUptoSaid : Prop := tallyStepsUptoRow.holds Try.pinned (OpenSpec.upto tallyStepsSpec)

/-- 'locketlaw06.TallyForms', WHERE WHAT IT READS IS OF BULK AT MOST 1048576: true; the input reads as it did. -/
def tallyFormsUptoRow : OpenClaim := { program := "ytieaebbnmebbfaa", sum := "0b03b7fc65a5c15198ff0872cba9a28b22e3bc202b8894485d4bb06845b2d47f", func := "locket/locketlaw06.TallyForms", spec := "tallyForms", inPlace := ["math.archTrunc", "math.Float64bits", "math.Float64frombits"], unfollowed := true, recurses := true, apart := false, narrowed := true }
def TallyFormsUptoSaid : Prop := tallyFormsUptoRow.holds Try.pinned (OpenSpec.upto tallyFormsSpec)

end Rows
end Go.Proofs.Ytieaebbnmebbfaa
