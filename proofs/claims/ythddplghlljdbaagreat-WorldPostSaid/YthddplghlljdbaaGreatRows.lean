/-
  No cell of these rows narrows 'for every input' (looked for: loops, veiled, ifaces, maps, wideKeys, modest, calm, conditions, laid).
  DERIVED. THE GIVEN ROWS OF THIS SEAT. 4 by the template 'for every input the law returns true; each argument reads behind the call as it read before'; 0 by the template 'total and deterministic' (their statements: YthddplghlljdbaaGreatTotals.lean).
  GIVEN WITH THE SEED: the statements are not yours to turn. If you find one false, say at which input.
  Laid BY PROGRAM, IN A SANDBOX (cutbox-rows.mjs): the forced cells as the released guide's own fill.sh prints them over the translation ace48ddafd14c725… (all of the seat's roots in one cut). By AI agents, Wed Nov 11 2026. No macro, syntax, notation, axiom, sorry.
-/
import Derived.Test.YthddplghlljdbaaGreatChecked
import GoSem.Claim
import GoSem.ClaimJoined
import GoSem.ClaimMapViews
import Derived.JoinedTies
import Derived.KernelRfl
namespace Go.Proofs.YthddplghlljdbaaGreat
/- THE CELL 'sum', in the pinned program and in every row, IS THE sha256 OF THE DUMP (.gsa) THAT YthddplghlljdbaaGreatProg.lean LOADS. Nothing in Lean hashes anything: it is a label: what it is worth is what the hold of that sum in a sandbox is worth. -/
noncomputable def Tryz.pinned : Pinned := { name := "ythddplghlljdbaagreat", sum := "ace48ddafd14c725bea637ee3f2993a34ca0450f62d15cc5ff3f25159aca7137", checked := Tryz.checked }
namespace Rows
def none {H : Type} : Left H := { results := [], args := [] }

/-- 'locketlaw20.WorldPost': WHATEVER THE INPUT: true; the input reads as it did. -/
def worldPostSpec : ChangeSpec := { name := "worldPost", fn := fun _ => fun
  | [d] => { results := [.lit (.bool true)], args := [d] }
  | _ => none }
def worldPostRow : OpenClaim := { program := "ythddplghlljdbaagreat", sum := "ace48ddafd14c725bea637ee3f2993a34ca0450f62d15cc5ff3f25159aca7137", func := "locket/locketlaw20.WorldPost", spec := "worldPost", inPlace := ["math/bits.Add64", "slices.overlaps[locket/policy.Member]", "maps.clone", "math.archTrunc", "math.Float64bits", "math.Float64frombits"], unfollowed := true, recurses := true, plainKeys := false, apart := false }
def WorldPostSaid : Prop := worldPostRow.holds Tryz.pinned (OpenSpec.ofChange worldPostSpec)

/-- ITS FALSE NEIGHBOUR: 'it returns false'. Refute it at one input. -/
def worldPostWrong : ChangeSpec := { name := "worldPost", fn := fun _ => fun
  | [d] => { results := [.lit (.bool false)], args := [d] }
  | _ => none }
def WorldPostWrongFalsely : Prop := worldPostRow.holds Tryz.pinned (OpenSpec.ofChange worldPostWrong)

/-- 'locketlaw20.WorldTallies': WHATEVER THE INPUT: true; the input reads as it did. -/
def worldTalliesSpec : ChangeSpec := { name := "worldTallies", fn := fun _ => fun
  | [d1, d2] => { results := [.lit (.bool true)], args := [d1, d2] }
  | _ => none }
def worldTalliesRow : OpenClaim := { program := "ythddplghlljdbaagreat", sum := "ace48ddafd14c725bea637ee3f2993a34ca0450f62d15cc5ff3f25159aca7137", func := "locket/locketlaw20.WorldTallies", spec := "worldTallies", inPlace := ["math/bits.Add64", "slices.overlaps[locket/policy.Member]", "maps.clone", "math.archTrunc", "math.Float64bits", "math.Float64frombits"], unfollowed := true, recurses := true, plainKeys := false, apart := false }
def WorldTalliesSaid : Prop := worldTalliesRow.holds Tryz.pinned (OpenSpec.ofChange worldTalliesSpec)

/-- ITS FALSE NEIGHBOUR: 'it returns false'. Refute it at one input. -/
def worldTalliesWrong : ChangeSpec := { name := "worldTallies", fn := fun _ => fun
  | [d1, d2] => { results := [.lit (.bool false)], args := [d1, d2] }
  | _ => none }
def WorldTalliesWrongFalsely : Prop := worldTalliesRow.holds Tryz.pinned (OpenSpec.ofChange worldTalliesWrong)

/-- 'locketlaw20.WorldSent': WHATEVER THE INPUT: true; the input reads as it did. -/
def worldSentSpec : ChangeSpec := { name := "worldSent", fn := fun _ => fun
  | [d1, d2] => { results := [.lit (.bool true)], args := [d1, d2] }
  | _ => none }
def worldSentRow : OpenClaim := { program := "ythddplghlljdbaagreat", sum := "ace48ddafd14c725bea637ee3f2993a34ca0450f62d15cc5ff3f25159aca7137", func := "locket/locketlaw20.WorldSent", spec := "worldSent", inPlace := ["math/bits.Add64", "slices.overlaps[locket/policy.Member]", "maps.clone", "math.archTrunc", "math.Float64bits", "math.Float64frombits"], unfollowed := true, recurses := true, plainKeys := false, apart := false }
def WorldSentSaid : Prop := worldSentRow.holds Tryz.pinned (OpenSpec.ofChange worldSentSpec)

/-- ITS FALSE NEIGHBOUR: 'it returns false'. Refute it at one input. -/
def worldSentWrong : ChangeSpec := { name := "worldSent", fn := fun _ => fun
  | [d1, d2] => { results := [.lit (.bool false)], args := [d1, d2] }
  | _ => none }
def WorldSentWrongFalsely : Prop := worldSentRow.holds Tryz.pinned (OpenSpec.ofChange worldSentWrong)

/-- 'locketlaw20.WorldRefuses': WHATEVER THE INPUT: true; the input reads as it did. -/
def worldRefusesSpec : ChangeSpec := { name := "worldRefuses", fn := fun _ => fun
  | [d1, d2, d3] => { results := [.lit (.bool true)], args := [d1, d2, d3] }
  | _ => none }
def worldRefusesRow : OpenClaim := { program := "ythddplghlljdbaagreat", sum := "ace48ddafd14c725bea637ee3f2993a34ca0450f62d15cc5ff3f25159aca7137", func := "locket/locketlaw20.WorldRefuses", spec := "worldRefuses", inPlace := ["math/bits.Add64", "slices.overlaps[locket/policy.Member]", "maps.clone", "math.archTrunc", "math.Float64bits", "math.Float64frombits"], unfollowed := true, recurses := true, plainKeys := false, apart := false }
def WorldRefusesSaid : Prop := worldRefusesRow.holds Tryz.pinned (OpenSpec.ofChange worldRefusesSpec)

/-- ITS FALSE NEIGHBOUR: 'it returns false'. Refute it at one input. -/
def worldRefusesWrong : ChangeSpec := { name := "worldRefuses", fn := fun _ => fun
  | [d1, d2, d3] => { results := [.lit (.bool false)], args := [d1, d2, d3] }
  | _ => none }
def WorldRefusesWrongFalsely : Prop := worldRefusesRow.holds Tryz.pinned (OpenSpec.ofChange worldRefusesWrong)

/- THE SECOND FORM. 'bulk': how many values and letters a reading holds, each counted each time it is reached (what is shared counts as often as it is met; a slice's spare places count too). A statement '..UptoSaid' is the law's where the arguments, and the package variables that the reading takes, are together of bulk at most 1048576: NARROWER than '..Said'. Prove '..Said' where nothing that the law and all that it calls make is longer than what came in: it says more and counts as full. Else prove '..UptoSaid'. A law counts once. -/
mutual
def uptoBulk {H : Type} : DataW H → Nat
  | .lit (.string bytes) => bytes.length + 1
  | .lit _ => 1
  | .nil => 1
  | .ptr d => uptoBulk d + 1
  | .slice elems spare => uptoBulkAll elems + uptoBulkAll spare + 1
  | .agg parts => uptoBulkAll parts + 1
  | .iface _ d => uptoBulk d + 1
  | .map entries => uptoBulkEntries entries + 1
  | .held _ => 1
def uptoBulkAll {H : Type} : List (DataW H) → Nat
  | [] => 0
  | d :: r => uptoBulk d + uptoBulkAll r
def uptoBulkEntries {H : Type} : List (Lit × DataW H) → Nat
  | [] => 0
  | x :: r => uptoBulkEntry x + uptoBulkEntries r
def uptoBulkEntry {H : Type} : Lit × DataW H → Nat
  | (.string bytes, d) => bytes.length + uptoBulk d + 1
  | (_, d) => uptoBulk d + 1
 end
def uptoSmall : (H : Type) → List (DataW H) → Bool := fun _ ds => decide (uptoBulkAll ds ≤ 1048576)
def OpenSpec.upto (s : _root_.Go.ChangeSpec) : _root_.Go.OpenSpec := { _root_.Go.OpenSpec.ofChange s with cond := some uptoSmall }

/-- 'locketlaw20.WorldPost', WHERE WHAT IT READS IS OF BULK AT MOST 1048576: true; the input reads as it did. -/
def worldPostUptoRow : OpenClaim := { program := "ythddplghlljdbaagreat", sum := "ace48ddafd14c725bea637ee3f2993a34ca0450f62d15cc5ff3f25159aca7137", func := "locket/locketlaw20.WorldPost", spec := "worldPost", inPlace := ["math/bits.Add64", "slices.overlaps[locket/policy.Member]", "maps.clone", "math.archTrunc", "math.Float64bits", "math.Float64frombits"], unfollowed := true, recurses := true, plainKeys := false, apart := false, narrowed := true }
def WorldPostUptoSaid : Prop := worldPostUptoRow.holds Tryz.pinned (OpenSpec.upto worldPostSpec)

/-- 'locketlaw20.WorldTallies', WHERE WHAT IT READS IS OF BULK AT MOST 1048576: true; the input reads as it did. -/
def worldTalliesUptoRow : OpenClaim := { program := "ythddplghlljdbaagreat", sum := "ace48ddafd14c725bea637ee3f2993a34ca0450f62d15cc5ff3f25159aca7137", func := "locket/locketlaw20.WorldTallies", spec := "worldTallies", inPlace := ["math/bits.Add64", "slices.overlaps[locket/policy.Member]", "maps.clone", "math.archTrunc", "math.Float64bits", "math.Float64frombits"], unfollowed := true, recurses := true, plainKeys := false, apart := false, narrowed := true }
def WorldTalliesUptoSaid : Prop := worldTalliesUptoRow.holds Tryz.pinned (OpenSpec.upto worldTalliesSpec)

/-- 'locketlaw20.WorldSent', WHERE WHAT IT READS IS OF BULK AT MOST 1048576: true; the input reads as it did. -/
def worldSentUptoRow : OpenClaim := { program := "ythddplghlljdbaagreat", sum := "ace48ddafd14c725bea637ee3f2993a34ca0450f62d15cc5ff3f25159aca7137", func := "locket/locketlaw20.WorldSent", spec := "worldSent", inPlace := ["math/bits.Add64", "slices.overlaps[locket/policy.Member]", "maps.clone", "math.archTrunc", "math.Float64bits", "math.Float64frombits"], unfollowed := true, recurses := true, plainKeys := false, apart := false, narrowed := true }
def WorldSentUptoSaid : Prop := worldSentUptoRow.holds Tryz.pinned (OpenSpec.upto worldSentSpec)

/-- 'locketlaw20.WorldRefuses', WHERE WHAT IT READS IS OF BULK AT MOST 1048576: true; the input reads as it did. -/
def worldRefusesUptoRow : OpenClaim := { program := "ythddplghlljdbaagreat", sum := "ace48ddafd14c725bea637ee3f2993a34ca0450f62d15cc5ff3f25159aca7137", func := "locket/locketlaw20.WorldRefuses", spec := "worldRefuses", inPlace := ["math/bits.Add64", "slices.overlaps[locket/policy.Member]", "maps.clone", "math.archTrunc", "math.Float64bits", "math.Float64frombits"], unfollowed := true, recurses := true, plainKeys := false, apart := false, narrowed := true }
def WorldRefusesUptoSaid : Prop := worldRefusesUptoRow.holds Tryz.pinned (OpenSpec.upto worldRefusesSpec)

end Rows
end Go.Proofs.YthddplghlljdbaaGreat
