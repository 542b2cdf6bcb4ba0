/-
  No cell of these rows narrows 'for every input' (looked for: loops, veiled, ifaces, maps, wideKeys, modest, calm, conditions, laid).
  DERIVED. THE GIVEN ROWS OF THIS SEAT. 6 by the template 'for every input the law returns true; each argument reads behind the call as it read before'; 0 by the template 'total and deterministic' (their statements: YtmalblpdkpjbcaaGreatTotals.lean).
  GIVEN WITH THE SEED: the statements are not yours to turn. If you find one false, say at which input.
  Laid BY PROGRAM, IN A SANDBOX (cutbox-rows.mjs): the forced cells as the released guide's own fill.sh prints them over the translation 5da308adf9334c3e… (all of the seat's roots in one cut). By AI agents, Wed Nov 11 2026. No macro, syntax, notation, axiom, sorry.
-/
import Derived.Test.YtmalblpdkpjbcaaGreatChecked
import GoSem.Claim
import GoSem.ClaimJoined
import GoSem.ClaimMapViews
import Derived.JoinedTies
import Derived.KernelRfl
namespace Go.Proofs.YtmalblpdkpjbcaaGreat
/- THE CELL 'sum', in the pinned program and in every row, IS THE sha256 OF THE DUMP (.gsa) THAT YtmalblpdkpjbcaaGreatProg.lean LOADS. Nothing in Lean hashes anything: it is a label: what it is worth is what the hold of that sum in a sandbox is worth. -/
noncomputable def Tryz.pinned : Pinned := { name := "ytmalblpdkpjbcaagreat", sum := "5da308adf9334c3e5b779efbca36c884fcc501b6806c43f3b1c4aebe2ba09859", checked := Tryz.checked }
namespace Rows
def none {H : Type} : Left H := { results := [], args := [] }

/-- 'locketlaw16.ReplayReaders': WHATEVER THE INPUT: true; the input reads as it did. -/
def replayReadersSpec : ChangeSpec := { name := "replayReaders", fn := fun _ => fun
  | [d1, d2] => { results := [.lit (.bool true)], args := [d1, d2] }
  | _ => none }
def replayReadersRow : OpenClaim := { program := "ytmalblpdkpjbcaagreat", sum := "5da308adf9334c3e5b779efbca36c884fcc501b6806c43f3b1c4aebe2ba09859", func := "locket/locketlaw16.ReplayReaders", spec := "replayReaders", inPlace := ["math/bits.Add64", "slices.overlaps[locket/policy.Member]", "maps.clone"], unfollowed := true, recurses := true, plainKeys := false, apart := false }
def ReplayReadersSaid : Prop := replayReadersRow.holds Tryz.pinned (OpenSpec.ofChange replayReadersSpec)

/-- ITS FALSE NEIGHBOUR: 'it returns false'. Refute it at one input. -/
def replayReadersWrong : ChangeSpec := { name := "replayReaders", fn := fun _ => fun
  | [d1, d2] => { results := [.lit (.bool false)], args := [d1, d2] }
  | _ => none }
def ReplayReadersWrongFalsely : Prop := replayReadersRow.holds Tryz.pinned (OpenSpec.ofChange replayReadersWrong)

/-- 'locketlaw16.ReplayOthers': WHATEVER THE INPUT: true; the input reads as it did. -/
def replayOthersSpec : ChangeSpec := { name := "replayOthers", fn := fun _ => fun
  | [d1, d2] => { results := [.lit (.bool true)], args := [d1, d2] }
  | _ => none }
def replayOthersRow : OpenClaim := { program := "ytmalblpdkpjbcaagreat", sum := "5da308adf9334c3e5b779efbca36c884fcc501b6806c43f3b1c4aebe2ba09859", func := "locket/locketlaw16.ReplayOthers", spec := "replayOthers", inPlace := ["math/bits.Add64", "slices.overlaps[locket/policy.Member]", "maps.clone"], unfollowed := true, recurses := true, plainKeys := false, apart := false }
def ReplayOthersSaid : Prop := replayOthersRow.holds Tryz.pinned (OpenSpec.ofChange replayOthersSpec)

/-- ITS FALSE NEIGHBOUR: 'it returns false'. Refute it at one input. -/
def replayOthersWrong : ChangeSpec := { name := "replayOthers", fn := fun _ => fun
  | [d1, d2] => { results := [.lit (.bool false)], args := [d1, d2] }
  | _ => none }
def ReplayOthersWrongFalsely : Prop := replayOthersRow.holds Tryz.pinned (OpenSpec.ofChange replayOthersWrong)

/-- 'locketlaw16.ReplayTwice': WHATEVER THE INPUT: true; the input reads as it did. -/
def replayTwiceSpec : ChangeSpec := { name := "replayTwice", fn := fun _ => fun
  | [d1, d2] => { results := [.lit (.bool true)], args := [d1, d2] }
  | _ => none }
def replayTwiceRow : OpenClaim := { program := "ytmalblpdkpjbcaagreat", sum := "5da308adf9334c3e5b779efbca36c884fcc501b6806c43f3b1c4aebe2ba09859", func := "locket/locketlaw16.ReplayTwice", spec := "replayTwice", inPlace := ["math/bits.Add64", "slices.overlaps[locket/policy.Member]", "maps.clone"], unfollowed := true, recurses := true, plainKeys := false, apart := false }
def ReplayTwiceSaid : Prop := replayTwiceRow.holds Tryz.pinned (OpenSpec.ofChange replayTwiceSpec)

/-- ITS FALSE NEIGHBOUR: 'it returns false'. Refute it at one input. -/
def replayTwiceWrong : ChangeSpec := { name := "replayTwice", fn := fun _ => fun
  | [d1, d2] => { results := [.lit (.bool false)], args := [d1, d2] }
  | _ => none }
def ReplayTwiceWrongFalsely : Prop := replayTwiceRow.holds Tryz.pinned (OpenSpec.ofChange replayTwiceWrong)

/-- 'locketlaw16.ReplayRefuses': WHATEVER THE INPUT: true; the input reads as it did. -/
def replayRefusesSpec : ChangeSpec := { name := "replayRefuses", fn := fun _ => fun
  | [d1, d2, d3] => { results := [.lit (.bool true)], args := [d1, d2, d3] }
  | _ => none }
def replayRefusesRow : OpenClaim := { program := "ytmalblpdkpjbcaagreat", sum := "5da308adf9334c3e5b779efbca36c884fcc501b6806c43f3b1c4aebe2ba09859", func := "locket/locketlaw16.ReplayRefuses", spec := "replayRefuses", inPlace := ["math/bits.Add64", "slices.overlaps[locket/policy.Member]", "maps.clone"], unfollowed := true, recurses := true, plainKeys := false, apart := false }
def ReplayRefusesSaid : Prop := replayRefusesRow.holds Tryz.pinned (OpenSpec.ofChange replayRefusesSpec)

/-- ITS FALSE NEIGHBOUR: 'it returns false'. Refute it at one input. -/
def replayRefusesWrong : ChangeSpec := { name := "replayRefuses", fn := fun _ => fun
  | [d1, d2, d3] => { results := [.lit (.bool false)], args := [d1, d2, d3] }
  | _ => none }
def ReplayRefusesWrongFalsely : Prop := replayRefusesRow.holds Tryz.pinned (OpenSpec.ofChange replayRefusesWrong)

/-- 'locketlaw16.ReplayPlays': WHATEVER THE INPUT: true; the input reads as it did. -/
def replayPlaysSpec : ChangeSpec := { name := "replayPlays", fn := fun _ => fun
  | [d1, d2] => { results := [.lit (.bool true)], args := [d1, d2] }
  | _ => none }
def replayPlaysRow : OpenClaim := { program := "ytmalblpdkpjbcaagreat", sum := "5da308adf9334c3e5b779efbca36c884fcc501b6806c43f3b1c4aebe2ba09859", func := "locket/locketlaw16.ReplayPlays", spec := "replayPlays", inPlace := ["math/bits.Add64", "slices.overlaps[locket/policy.Member]", "maps.clone"], unfollowed := true, recurses := true, plainKeys := false, apart := false }
def ReplayPlaysSaid : Prop := replayPlaysRow.holds Tryz.pinned (OpenSpec.ofChange replayPlaysSpec)

/-- ITS FALSE NEIGHBOUR: 'it returns false'. Refute it at one input. -/
def replayPlaysWrong : ChangeSpec := { name := "replayPlays", fn := fun _ => fun
  | [d1, d2] => { results := [.lit (.bool false)], args := [d1, d2] }
  | _ => none }
def ReplayPlaysWrongFalsely : Prop := replayPlaysRow.holds Tryz.pinned (OpenSpec.ofChange replayPlaysWrong)

/-- 'locketlaw16.ReplayViews': WHATEVER THE INPUT: true; the input reads as it did. -/
def replayViewsSpec : ChangeSpec := { name := "replayViews", fn := fun _ => fun
  | [d1, d2, d3] => { results := [.lit (.bool true)], args := [d1, d2, d3] }
  | _ => none }
def replayViewsRow : OpenClaim := { program := "ytmalblpdkpjbcaagreat", sum := "5da308adf9334c3e5b779efbca36c884fcc501b6806c43f3b1c4aebe2ba09859", func := "locket/locketlaw16.ReplayViews", spec := "replayViews", inPlace := ["math/bits.Add64", "slices.overlaps[locket/policy.Member]", "maps.clone"], unfollowed := true, recurses := true, plainKeys := false, apart := false }
def ReplayViewsSaid : Prop := replayViewsRow.holds Tryz.pinned (OpenSpec.ofChange replayViewsSpec)

/-- ITS FALSE NEIGHBOUR: 'it returns false'. Refute it at one input. -/
def replayViewsWrong : ChangeSpec := { name := "replayViews", fn := fun _ => fun
  | [d1, d2, d3] => { results := [.lit (.bool false)], args := [d1, d2, d3] }
  | _ => none }
def ReplayViewsWrongFalsely : Prop := replayViewsRow.holds Tryz.pinned (OpenSpec.ofChange replayViewsWrong)

/- THE SECOND FORM. 'bulk': how many values and letters a reading holds, each counted each time it is reached (what is shared counts as often as it is met; a slice's spare places count too). A statement '..UptoSaid' is the law's where the arguments, and the package variables that the reading takes, are together of bulk at most 1048576: NARROWER than '..Said'. Prove '..Said' where nothing that the law and all that it calls make is longer than what came in: it says more and counts as full. Else prove '..UptoSaid'. A law counts once. -/
mutual
def uptoBulk {H : Type} : DataW H → Nat
  | .lit (.string bytes) => bytes.length + 1
  | .lit _ => 1
  | .nil => 1
  | .ptr d => uptoBulk d + 1
  | .slice elems spare => uptoBulkAll elems + uptoBulkAll spare + 1
  | .agg parts => uptoBulkAll parts + 1
  | .iface _ d => uptoBulk d + 1
  | .map entries => uptoBulkEntries entries + 1
  | .held _ => 1
def uptoBulkAll {H : Type} : List (DataW H) → Nat
  | [] => 0
  | d :: r => uptoBulk d + uptoBulkAll r
def uptoBulkEntries {H : Type} : List (Lit × DataW H) → Nat
  | [] => 0
  | x :: r => uptoBulkEntry x + uptoBulkEntries r
def uptoBulkEntry {H : Type} : Lit × DataW H → Nat
  | (.string bytes, d) => bytes.length + uptoBulk d + 1
  | (_, d) => uptoBulk d + 1
 end
def uptoSmall : (H : Type) → List (DataW H) → Bool := fun _ ds => decide (uptoBulkAll ds ≤ 1048576)
def OpenSpec.upto (s : _root_.Go.ChangeSpec) : _root_.Go.OpenSpec := { _root_.Go.OpenSpec.ofChange s with cond := some uptoSmall }

/-- 'locketlaw16.ReplayReaders', WHERE WHAT IT READS IS OF BULK AT MOST 1048576: true; the input reads as it did. -/
def replayReadersUptoRow : OpenClaim := { program := "ytmalblpdkpjbcaagreat", sum := "5da308adf9334c3e5b779efbca36c884fcc501b6806c43f3b1c4aebe2ba09859", func := "locket/locketlaw16.ReplayReaders", spec := "replayReaders", inPlace := ["math/bits.Add64", "slices.overlaps[locket/policy.Member]", "maps.clone"], unfollowed := true, recurses := true, plainKeys := false, apart := false, narrowed := true }
def ReplayReadersUptoSaid : Prop := replayReadersUptoRow.holds Tryz.pinned (OpenSpec.upto replayReadersSpec)

/-- 'locketlaw16.ReplayOthers', WHERE WHAT IT READS IS OF BULK AT MOST 1048576: true; the input reads as it did. -/
def replayOthersUptoRow : OpenClaim := { program := "ytmalblpdkpjbcaagreat", sum := "5da308adf9334c3e5b779efbca36c884fcc501b6806c43f3b1c4aebe2ba09859", func := "locket/locketlaw16.ReplayOthers", spec := "replayOthers", inPlace := ["math/bits.Add64", "slices.overlaps[locket/policy.Member]", "maps.clone"], unfollowed := true, recurses := true, plainKeys := false, apart := false, narrowed := true }
def ReplayOthersUptoSaid : Prop := replayOthersUptoRow.holds Tryz.pinned (OpenSpec.upto replayOthersSpec)

/-- 'locketlaw16.ReplayTwice', WHERE WHAT IT READS IS OF BULK AT MOST 1048576: true; the input reads as it did. -/
def replayTwiceUptoRow : OpenClaim := { program := "ytmalblpdkpjbcaagreat", sum := "5da308adf9334c3e5b779efbca36c884fcc501b6806c43f3b1c4aebe2ba09859", func := "locket/locketlaw16.ReplayTwice", spec := "replayTwice", inPlace := ["math/bits.Add64", "slices.overlaps[locket/policy.Member]", "maps.clone"], unfollowed := true, recurses := true, plainKeys := false, apart := false, narrowed := true }
def ReplayTwiceUptoSaid : Prop := replayTwiceUptoRow.holds Tryz.pinned (OpenSpec.upto replayTwiceSpec)

/-- 'locketlaw16.ReplayRefuses', WHERE WHAT IT READS IS OF BULK AT MOST 1048576: true; the input reads as it did. -/
def replayRefusesUptoRow : OpenClaim := { program := "ytmalblpdkpjbcaagreat", sum := "5da308adf9334c3e5b779efbca36c884fcc501b6806c43f3b1c4aebe2ba09859", func := "locket/locketlaw16.ReplayRefuses", spec := "replayRefuses", inPlace := ["math/bits.Add64", "slices.overlaps[locket/policy.Member]", "maps.clone"], unfollowed := true, recurses := true, plainKeys := false, apart := false, narrowed := true }
def ReplayRefusesUptoSaid : Prop := replayRefusesUptoRow.holds Tryz.pinned (OpenSpec.upto replayRefusesSpec)

/-- 'locketlaw16.ReplayPlays', WHERE WHAT IT READS IS OF BULK AT MOST 1048576: true; the input reads as it did. -/
def replayPlaysUptoRow : OpenClaim := { program := "ytmalblpdkpjbcaagreat", sum := "5da308adf9334c3e5b779efbca36c884fcc501b6806c43f3b1c4aebe2ba09859", func := "locket/locketlaw16.ReplayPlays", spec := "replayPlays", inPlace := ["math/bits.Add64", "slices.overlaps[locket/policy.Member]", "maps.clone"], unfollowed := true, recurses := true, plainKeys := false, apart := false, narrowed := true }
def ReplayPlaysUptoSaid : Prop := replayPlaysUptoRow.holds Tryz.pinned (OpenSpec.upto replayPlaysSpec)

/-- 'locketlaw16.ReplayViews', WHERE WHAT IT READS IS OF BULK AT MOST 1048576: true; the input reads as it did. -/
def replayViewsUptoRow : OpenClaim := { program := "ytmalblpdkpjbcaagreat", sum := "5da308adf9334c3e5b779efbca36c884fcc501b6806c43f3b1c4aebe2ba09859", func := "locket/locketlaw16.ReplayViews", spec := "replayViews", inPlace := ["math/bits.Add64", "slices.overlaps[locket/policy.Member]", "maps.clone"], unfollowed := true, recurses := true, plainKeys := false, apart := false, narrowed := true }
def ReplayViewsUptoSaid : Prop := replayViewsUptoRow.holds Tryz.pinned (OpenSpec.upto replayViewsSpec)

end Rows
end Go.Proofs.YtmalblpdkpjbcaaGreat
