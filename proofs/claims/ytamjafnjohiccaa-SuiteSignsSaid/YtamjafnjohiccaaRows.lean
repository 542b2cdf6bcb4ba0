/-
  No cell of these rows narrows 'for every input' (looked for: loops, veiled, ifaces, maps, wideKeys, modest, calm, conditions, laid).
  DERIVED. THE GIVEN ROWS OF THIS SEAT. 7 by the template 'for every input the law returns true; each argument reads behind the call as it read before'; 0 by the template 'total and deterministic' (their statements: YtamjafnjohiccaaTotals.lean).
  GIVEN WITH THE SEED: the statements are not yours to turn. If you find one false, say at which input.
  Laid BY PROGRAM, IN A SANDBOX (cutbox-rows.mjs): the forced cells as the released guide's own fill.sh prints them over the translation 1c18627a79663a04… (all of the seat's roots in one cut). By AI agents, Wed Nov 11 2026. No macro, syntax, notation, axiom, sorry.
-/
import Derived.Test.YtamjafnjohiccaaChecked
import GoSem.Claim
import GoSem.ClaimJoined
import GoSem.ClaimMapViews
import Derived.JoinedTies
import Derived.KernelRfl
namespace Go.Proofs.Ytamjafnjohiccaa
/- THE CELL 'sum', in the pinned program and in every row, IS THE sha256 OF THE DUMP (.gsa) THAT YtamjafnjohiccaaProg.lean LOADS. Nothing in Lean hashes anything: it is a label: what it is worth is what the hold of that sum in a sandbox is worth. -/
noncomputable def Try.pinned : Pinned := { name := "ytamjafnjohiccaa", sum := "1c18627a79663a048e15c5259cefec5838fe15cbd01d9667fa41706c9437fae6", checked := Try.checked }
namespace Rows
def none {H : Type} : Left H := { results := [], args := [] }

/-- 'locketlaw07.SuiteApart': WHATEVER THE INPUT: true; the input reads as it did. -/
def suiteApartSpec : ChangeSpec := { name := "suiteApart", fn := fun _ => fun
  | [d1, d2, d3, d4] => { results := [.lit (.bool true)], args := [d1, d2, d3, d4] }
  | _ => none }
def suiteApartRow : OpenClaim := { program := "ytamjafnjohiccaa", sum := "1c18627a79663a048e15c5259cefec5838fe15cbd01d9667fa41706c9437fae6", func := "locket/locketlaw07.SuiteApart", spec := "suiteApart", plainKeys := false, apart := false }
def SuiteApartSaid : Prop := suiteApartRow.holds Try.pinned (OpenSpec.ofChange suiteApartSpec)

/-- ITS FALSE NEIGHBOUR: 'it returns false'. Refute it at one input. -/
def suiteApartWrong : ChangeSpec := { name := "suiteApart", fn := fun _ => fun
  | [d1, d2, d3, d4] => { results := [.lit (.bool false)], args := [d1, d2, d3, d4] }
  | _ => none }
def SuiteApartWrongFalsely : Prop := suiteApartRow.holds Try.pinned (OpenSpec.ofChange suiteApartWrong)

/-- 'locketlaw07.SuiteTwo': WHATEVER THE INPUT: true; the input reads as it did. -/
def suiteTwoSpec : ChangeSpec := { name := "suiteTwo", fn := fun _ => fun
  | [d1, d2, d3, d4] => { results := [.lit (.bool true)], args := [d1, d2, d3, d4] }
  | _ => none }
def suiteTwoRow : OpenClaim := { program := "ytamjafnjohiccaa", sum := "1c18627a79663a048e15c5259cefec5838fe15cbd01d9667fa41706c9437fae6", func := "locket/locketlaw07.SuiteTwo", spec := "suiteTwo", inPlace := ["math/bits.Add64"], plainKeys := false, apart := false }
def SuiteTwoSaid : Prop := suiteTwoRow.holds Try.pinned (OpenSpec.ofChange suiteTwoSpec)

/-- ITS FALSE NEIGHBOUR: 'it returns false'. Refute it at one input. -/
def suiteTwoWrong : ChangeSpec := { name := "suiteTwo", fn := fun _ => fun
  | [d1, d2, d3, d4] => { results := [.lit (.bool false)], args := [d1, d2, d3, d4] }
  | _ => none }
def SuiteTwoWrongFalsely : Prop := suiteTwoRow.holds Try.pinned (OpenSpec.ofChange suiteTwoWrong)

/-- 'locketlaw07.SuiteOnce': WHATEVER THE INPUT: true; the input reads as it did. -/
def suiteOnceSpec : ChangeSpec := { name := "suiteOnce", fn := fun _ => fun
  | [d1, d2] => { results := [.lit (.bool true)], args := [d1, d2] }
  | _ => none }
def suiteOnceRow : OpenClaim := { program := "ytamjafnjohiccaa", sum := "1c18627a79663a048e15c5259cefec5838fe15cbd01d9667fa41706c9437fae6", func := "locket/locketlaw07.SuiteOnce", spec := "suiteOnce", inPlace := ["math/bits.Add64"], plainKeys := false, apart := false }
def SuiteOnceSaid : Prop := suiteOnceRow.holds Try.pinned (OpenSpec.ofChange suiteOnceSpec)

/-- ITS FALSE NEIGHBOUR: 'it returns false'. Refute it at one input. -/
def suiteOnceWrong : ChangeSpec := { name := "suiteOnce", fn := fun _ => fun
  | [d1, d2] => { results := [.lit (.bool false)], args := [d1, d2] }
  | _ => none }
def SuiteOnceWrongFalsely : Prop := suiteOnceRow.holds Try.pinned (OpenSpec.ofChange suiteOnceWrong)

/-- 'locketlaw07.SuiteHides': WHATEVER THE INPUT: true; the input reads as it did. -/
def suiteHidesSpec : ChangeSpec := { name := "suiteHides", fn := fun _ => fun
  | [d1, d2, d3, d4, d5] => { results := [.lit (.bool true)], args := [d1, d2, d3, d4, d5] }
  | _ => none }
def suiteHidesRow : OpenClaim := { program := "ytamjafnjohiccaa", sum := "1c18627a79663a048e15c5259cefec5838fe15cbd01d9667fa41706c9437fae6", func := "locket/locketlaw07.SuiteHides", spec := "suiteHides", inPlace := ["math/bits.Add64"], plainKeys := false, apart := false }
def SuiteHidesSaid : Prop := suiteHidesRow.holds Try.pinned (OpenSpec.ofChange suiteHidesSpec)

/-- ITS FALSE NEIGHBOUR: 'it returns false'. Refute it at one input. -/
def suiteHidesWrong : ChangeSpec := { name := "suiteHides", fn := fun _ => fun
  | [d1, d2, d3, d4, d5] => { results := [.lit (.bool false)], args := [d1, d2, d3, d4, d5] }
  | _ => none }
def SuiteHidesWrongFalsely : Prop := suiteHidesRow.holds Try.pinned (OpenSpec.ofChange suiteHidesWrong)

/-- 'locketlaw07.SuiteOpens': WHATEVER THE INPUT: true; the input reads as it did. -/
def suiteOpensSpec : ChangeSpec := { name := "suiteOpens", fn := fun _ => fun
  | [d1, d2, d3, d4, d5, d6] => { results := [.lit (.bool true)], args := [d1, d2, d3, d4, d5, d6] }
  | _ => none }
def suiteOpensRow : OpenClaim := { program := "ytamjafnjohiccaa", sum := "1c18627a79663a048e15c5259cefec5838fe15cbd01d9667fa41706c9437fae6", func := "locket/locketlaw07.SuiteOpens", spec := "suiteOpens", inPlace := ["math/bits.Add64"], plainKeys := false, apart := false }
def SuiteOpensSaid : Prop := suiteOpensRow.holds Try.pinned (OpenSpec.ofChange suiteOpensSpec)

/-- ITS FALSE NEIGHBOUR: 'it returns false'. Refute it at one input. -/
def suiteOpensWrong : ChangeSpec := { name := "suiteOpens", fn := fun _ => fun
  | [d1, d2, d3, d4, d5, d6] => { results := [.lit (.bool false)], args := [d1, d2, d3, d4, d5, d6] }
  | _ => none }
def SuiteOpensWrongFalsely : Prop := suiteOpensRow.holds Try.pinned (OpenSpec.ofChange suiteOpensWrong)

/-- 'locketlaw07.SuiteSigns': WHATEVER THE INPUT: true; the input reads as it did. -/
def suiteSignsSpec : ChangeSpec := { name := "suiteSigns", fn := fun _ => fun
  | [d] => { results := [.lit (.bool true)], args := [d] }
  | _ => none }
def suiteSignsRow : OpenClaim := { program := "ytamjafnjohiccaa", sum := "1c18627a79663a048e15c5259cefec5838fe15cbd01d9667fa41706c9437fae6", func := "locket/locketlaw07.SuiteSigns", spec := "suiteSigns", inPlace := ["math/bits.Add64"], plainKeys := false, apart := false }
def SuiteSignsSaid : Prop := suiteSignsRow.holds Try.pinned (OpenSpec.ofChange suiteSignsSpec)

/-- ITS FALSE NEIGHBOUR: 'it returns false'. Refute it at one input. -/
def suiteSignsWrong : ChangeSpec := { name := "suiteSigns", fn := fun _ => fun
  | [d] => { results := [.lit (.bool false)], args := [d] }
  | _ => none }
def SuiteSignsWrongFalsely : Prop := suiteSignsRow.holds Try.pinned (OpenSpec.ofChange suiteSignsWrong)

/-- 'locketlaw07.SuiteReal': WHATEVER THE INPUT: true; the input reads as it did. -/
def suiteRealSpec : ChangeSpec := { name := "suiteReal", fn := fun _ => fun
  | [d1, d2, d3, d4, d5] => { results := [.lit (.bool true)], args := [d1, d2, d3, d4, d5] }
  | _ => none }
def suiteRealRow : OpenClaim := { program := "ytamjafnjohiccaa", sum := "1c18627a79663a048e15c5259cefec5838fe15cbd01d9667fa41706c9437fae6", func := "locket/locketlaw07.SuiteReal", spec := "suiteReal", inPlace := ["math/bits.Add64"], plainKeys := false, apart := false }
def SuiteRealSaid : Prop := suiteRealRow.holds Try.pinned (OpenSpec.ofChange suiteRealSpec)

/-- ITS FALSE NEIGHBOUR: 'it returns false'. Refute it at one input. -/
def suiteRealWrong : ChangeSpec := { name := "suiteReal", fn := fun _ => fun
  | [d1, d2, d3, d4, d5] => { results := [.lit (.bool false)], args := [d1, d2, d3, d4, d5] }
  | _ => none }
def SuiteRealWrongFalsely : Prop := suiteRealRow.holds Try.pinned (OpenSpec.ofChange suiteRealWrong)

/- THE SECOND FORM. 'bulk': how many values and letters a reading holds, each counted each time it is reached (what is shared counts as often as it is met; a slice's spare places count too). A statement '..UptoSaid' is the law's where the arguments, and the package variables that the reading takes, are together of bulk at most 1048576: NARROWER than '..Said'. Prove '..Said' where nothing that the law and all that it calls make is longer than what came in: it says more and counts as full. Else prove '..UptoSaid'. A law counts once. -/
mutual
def uptoBulk {H : Type} : DataW H → Nat
  | .lit (.string bytes) => bytes.length + 1
  | .lit _ => 1
  | .nil => 1
  | .ptr d => uptoBulk d + 1
  | .slice elems spare => uptoBulkAll elems + uptoBulkAll spare + 1
  | .agg parts => uptoBulkAll parts + 1
  | .iface _ d => uptoBulk d + 1
  | .map entries => uptoBulkEntries entries + 1
  | .held _ => 1
def uptoBulkAll {H : Type} : List (DataW H) → Nat
  | [] => 0
  | d :: r => uptoBulk d + uptoBulkAll r
def uptoBulkEntries {H : Type} : List (Lit × DataW H) → Nat
  | [] => 0
  | x :: r => uptoBulkEntry x + uptoBulkEntries r
def uptoBulkEntry {H : Type} : Lit × DataW H → Nat
  | (.string bytes, d) => bytes.length + uptoBulk d + 1
  | (_, d) => uptoBulk d + 1
 end
def uptoSmall : (H : Type) → List (DataW H) → Bool := fun _ ds => decide (uptoBulkAll ds ≤ 1048576)
def OpenSpec.upto (s : _root_.Go.ChangeSpec) : _root_.Go.OpenSpec := { _root_.Go.OpenSpec.ofChange s with cond := some uptoSmall }

/-- 'locketlaw07.SuiteApart', WHERE WHAT IT READS IS OF BULK AT MOST 1048576: true; the input reads as it did. -/
def suiteApartUptoRow : OpenClaim := { program := "ytamjafnjohiccaa", sum := "1c18627a79663a048e15c5259cefec5838fe15cbd01d9667fa41706c9437fae6", func := "locket/locketlaw07.SuiteApart", spec := "suiteApart", plainKeys := false, apart := false, narrowed := true }
def SuiteApartUptoSaid : Prop := suiteApartUptoRow.holds Try.pinned (OpenSpec.upto suiteApartSpec)

/-- 'locketlaw07.SuiteTwo', WHERE WHAT IT READS IS OF BULK AT MOST 1048576: true; the input reads as it did. -/
def suiteTwoUptoRow : OpenClaim := { program := "ytamjafnjohiccaa", sum := "1c18627a79663a048e15c5259cefec5838fe15cbd01d9667fa41706c9437fae6", func := "locket/locketlaw07.SuiteTwo", spec := "suiteTwo", inPlace := ["math/bits.Add64"], plainKeys := false, apart := false, narrowed := true }
def SuiteTwoUptoSaid : Prop := suiteTwoUptoRow.holds Try.pinned (OpenSpec.upto suiteTwoSpec)

/-- 'locketlaw07.SuiteOnce', WHERE WHAT IT READS IS OF BULK AT MOST 1048576: true; the input reads as it did. -/
def suiteOnceUptoRow : OpenClaim := { program := "ytamjafnjohiccaa", sum := "1c18627a79663a048e15c5259cefec5838fe15cbd01d9667fa41706c9437fae6", func := "locket/locketlaw07.SuiteOnce", spec := "suiteOnce", inPlace := ["math/bits.Add64"], plainKeys := false, apart := false, narrowed := true }
def SuiteOnceUptoSaid : Prop := suiteOnceUptoRow.holds Try.pinned (OpenSpec.upto suiteOnceSpec)

/-- 'locketlaw07.SuiteHides', WHERE WHAT IT READS IS OF BULK AT MOST 1048576: true; the input reads as it did. -/
def suiteHidesUptoRow : OpenClaim := { program := "ytamjafnjohiccaa", sum := "1c18627a79663a048e15c5259cefec5838fe15cbd01d9667fa41706c9437fae6", func := "locket/locketlaw07.SuiteHides", spec := "suiteHides", inPlace := ["math/bits.Add64"], plainKeys := false, apart := false, narrowed := true }
def SuiteHidesUptoSaid : Prop := suiteHidesUptoRow.holds Try.pinned (OpenSpec.upto suiteHidesSpec)

/-- 'locketlaw07.SuiteOpens', WHERE WHAT IT READS IS OF BULK AT MOST 1048576: true; the input reads as it did. -/
def suiteOpensUptoRow : OpenClaim := { program := "ytamjafnjohiccaa", sum := "1c18627a79663a048e15c5259cefec5838fe15cbd01d9667fa41706c9437fae6", func := "locket/locketlaw07.SuiteOpens", spec := "suiteOpens", inPlace := ["math/bits.Add64"], plainKeys := false, apart := false, narrowed := true }
def SuiteOpensUptoSaid : Prop := suiteOpensUptoRow.holds Try.pinned (OpenSpec.upto suiteOpensSpec)

/-- 'locketlaw07.SuiteSigns', WHERE WHAT IT READS IS OF BULK AT MOST 1048576: true; the input reads as it did. -/
def suiteSignsUptoRow : OpenClaim := { program := "ytamjafnjohiccaa", sum := "1c18627a79663a048e15c5259cefec5838fe15cbd01d9667fa41706c9437fae6", func := "locket/locketlaw07.SuiteSigns", spec := "suiteSigns", inPlace := ["math/bits.Add64"], plainKeys := false, apart := false, narrowed := true }
def SuiteSignsUptoSaid : Prop := suiteSignsUptoRow.holds Try.pinned (OpenSpec.upto suiteSignsSpec)

/-- 'locketlaw07.SuiteReal', WHERE WHAT IT READS IS OF BULK AT MOST 1048576: true; the input reads as it did. -/
def suiteRealUptoRow : OpenClaim := { program := "ytamjafnjohiccaa", sum := "1c18627a79663a048e15c5259cefec5838fe15cbd01d9667fa41706c9437fae6", func := "locket/locketlaw07.SuiteReal", spec := "suiteReal", inPlace := ["math/bits.Add64"], plainKeys := false, apart := false, narrowed := true }
def SuiteRealUptoSaid : Prop := suiteRealUptoRow.holds Try.pinned (OpenSpec.upto suiteRealSpec)

end Rows
end Go.Proofs.Ytamjafnjohiccaa
