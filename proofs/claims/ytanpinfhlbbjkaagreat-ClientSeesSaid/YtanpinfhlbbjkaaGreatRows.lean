/-
  No cell of these rows narrows 'for every input' (looked for: loops, veiled, ifaces, maps, wideKeys, modest, calm, conditions, laid).
  DERIVED. THE GIVEN ROWS OF THIS SEAT. 6 by the template 'for every input the law returns true; each argument reads behind the call as it read before'; 0 by the template 'total and deterministic' (their statements: YtanpinfhlbbjkaaGreatTotals.lean).
  GIVEN WITH THE SEED: the statements are not yours to turn. If you find one false, say at which input.
  Laid BY PROGRAM, IN A SANDBOX (cutbox-rows.mjs): the forced cells as the released guide's own fill.sh prints them over the translation f45c82baecafc02a… (all of the seat's roots in one cut). By AI agents, Wed Nov 11 2026. No macro, syntax, notation, axiom, sorry.
-/
import Derived.Test.YtanpinfhlbbjkaaGreatChecked
import GoSem.Claim
import GoSem.ClaimJoined
import GoSem.ClaimMapViews
import Derived.JoinedTies
import Derived.KernelRfl
namespace Go.Proofs.YtanpinfhlbbjkaaGreat
/- THE CELL 'sum', in the pinned program and in every row, IS THE sha256 OF THE DUMP (.gsa) THAT YtanpinfhlbbjkaaGreatProg.lean LOADS. Nothing in Lean hashes anything: it is a label: what it is worth is what the hold of that sum in a sandbox is worth. -/
noncomputable def Tryz.pinned : Pinned := { name := "ytanpinfhlbbjkaagreat", sum := "f45c82baecafc02a12d2498ba9bf501463dca812ae57084e8bba783b52bb8c27", checked := Tryz.checked }
namespace Rows
def none {H : Type} : Left H := { results := [], args := [] }

/-- 'locketlaw18.ClientAgain': WHATEVER THE INPUT: true; the input reads as it did. -/
def clientAgainSpec : ChangeSpec := { name := "clientAgain", fn := fun _ => fun
  | [d1, d2] => { results := [.lit (.bool true)], args := [d1, d2] }
  | _ => none }
def clientAgainRow : OpenClaim := { program := "ytanpinfhlbbjkaagreat", sum := "f45c82baecafc02a12d2498ba9bf501463dca812ae57084e8bba783b52bb8c27", func := "locket/locketlaw18.ClientAgain", spec := "clientAgain", inPlace := ["maps.clone", "slices.overlaps[locket/policy.Member]", "math/bits.Add64"], unfollowed := true, recurses := true, plainKeys := false, apart := false }
def ClientAgainSaid : Prop := clientAgainRow.holds Tryz.pinned (OpenSpec.ofChange clientAgainSpec)

/-- ITS FALSE NEIGHBOUR: 'it returns false'. Refute it at one input. -/
def clientAgainWrong : ChangeSpec := { name := "clientAgain", fn := fun _ => fun
  | [d1, d2] => { results := [.lit (.bool false)], args := [d1, d2] }
  | _ => none }
def ClientAgainWrongFalsely : Prop := clientAgainRow.holds Tryz.pinned (OpenSpec.ofChange clientAgainWrong)

/-- 'locketlaw18.ClientStill': WHATEVER THE INPUT: true; the input reads as it did. -/
def clientStillSpec : ChangeSpec := { name := "clientStill", fn := fun _ => fun
  | [d1, d2] => { results := [.lit (.bool true)], args := [d1, d2] }
  | _ => none }
def clientStillRow : OpenClaim := { program := "ytanpinfhlbbjkaagreat", sum := "f45c82baecafc02a12d2498ba9bf501463dca812ae57084e8bba783b52bb8c27", func := "locket/locketlaw18.ClientStill", spec := "clientStill", inPlace := ["maps.clone", "slices.overlaps[locket/policy.Member]", "math/bits.Add64"], unfollowed := true, recurses := true, plainKeys := false, apart := false }
def ClientStillSaid : Prop := clientStillRow.holds Tryz.pinned (OpenSpec.ofChange clientStillSpec)

/-- ITS FALSE NEIGHBOUR: 'it returns false'. Refute it at one input. -/
def clientStillWrong : ChangeSpec := { name := "clientStill", fn := fun _ => fun
  | [d1, d2] => { results := [.lit (.bool false)], args := [d1, d2] }
  | _ => none }
def ClientStillWrongFalsely : Prop := clientStillRow.holds Tryz.pinned (OpenSpec.ofChange clientStillWrong)

/-- 'locketlaw18.ClientAlarms': WHATEVER THE INPUT: true; the input reads as it did. -/
def clientAlarmsSpec : ChangeSpec := { name := "clientAlarms", fn := fun _ => fun
  | [d1, d2] => { results := [.lit (.bool true)], args := [d1, d2] }
  | _ => none }
def clientAlarmsRow : OpenClaim := { program := "ytanpinfhlbbjkaagreat", sum := "f45c82baecafc02a12d2498ba9bf501463dca812ae57084e8bba783b52bb8c27", func := "locket/locketlaw18.ClientAlarms", spec := "clientAlarms", inPlace := ["maps.clone", "slices.overlaps[locket/policy.Member]", "math/bits.Add64"], unfollowed := true, recurses := true, plainKeys := false, apart := false }
def ClientAlarmsSaid : Prop := clientAlarmsRow.holds Tryz.pinned (OpenSpec.ofChange clientAlarmsSpec)

/-- ITS FALSE NEIGHBOUR: 'it returns false'. Refute it at one input. -/
def clientAlarmsWrong : ChangeSpec := { name := "clientAlarms", fn := fun _ => fun
  | [d1, d2] => { results := [.lit (.bool false)], args := [d1, d2] }
  | _ => none }
def ClientAlarmsWrongFalsely : Prop := clientAlarmsRow.holds Tryz.pinned (OpenSpec.ofChange clientAlarmsWrong)

/-- 'locketlaw18.ClientDone': WHATEVER THE INPUT: true; the input reads as it did. -/
def clientDoneSpec : ChangeSpec := { name := "clientDone", fn := fun _ => fun
  | [d1, d2] => { results := [.lit (.bool true)], args := [d1, d2] }
  | _ => none }
def clientDoneRow : OpenClaim := { program := "ytanpinfhlbbjkaagreat", sum := "f45c82baecafc02a12d2498ba9bf501463dca812ae57084e8bba783b52bb8c27", func := "locket/locketlaw18.ClientDone", spec := "clientDone", inPlace := ["maps.clone", "slices.overlaps[locket/policy.Member]", "math/bits.Add64"], unfollowed := true, recurses := true, plainKeys := false, apart := false }
def ClientDoneSaid : Prop := clientDoneRow.holds Tryz.pinned (OpenSpec.ofChange clientDoneSpec)

/-- ITS FALSE NEIGHBOUR: 'it returns false'. Refute it at one input. -/
def clientDoneWrong : ChangeSpec := { name := "clientDone", fn := fun _ => fun
  | [d1, d2] => { results := [.lit (.bool false)], args := [d1, d2] }
  | _ => none }
def ClientDoneWrongFalsely : Prop := clientDoneRow.holds Tryz.pinned (OpenSpec.ofChange clientDoneWrong)

/-- 'locketlaw18.ClientSees': WHATEVER THE INPUT: true; the input reads as it did. -/
def clientSeesSpec : ChangeSpec := { name := "clientSees", fn := fun _ => fun
  | [d] => { results := [.lit (.bool true)], args := [d] }
  | _ => none }
def clientSeesRow : OpenClaim := { program := "ytanpinfhlbbjkaagreat", sum := "f45c82baecafc02a12d2498ba9bf501463dca812ae57084e8bba783b52bb8c27", func := "locket/locketlaw18.ClientSees", spec := "clientSees", inPlace := ["maps.clone", "slices.overlaps[locket/policy.Member]", "math/bits.Add64"], unfollowed := true, recurses := true, plainKeys := false, apart := false }
def ClientSeesSaid : Prop := clientSeesRow.holds Tryz.pinned (OpenSpec.ofChange clientSeesSpec)

/-- ITS FALSE NEIGHBOUR: 'it returns false'. Refute it at one input. -/
def clientSeesWrong : ChangeSpec := { name := "clientSees", fn := fun _ => fun
  | [d] => { results := [.lit (.bool false)], args := [d] }
  | _ => none }
def ClientSeesWrongFalsely : Prop := clientSeesRow.holds Tryz.pinned (OpenSpec.ofChange clientSeesWrong)

/-- 'locketlaw18.ClientPlays': WHATEVER THE INPUT: true; the input reads as it did. -/
def clientPlaysSpec : ChangeSpec := { name := "clientPlays", fn := fun _ => fun
  | [d1, d2, d3] => { results := [.lit (.bool true)], args := [d1, d2, d3] }
  | _ => none }
def clientPlaysRow : OpenClaim := { program := "ytanpinfhlbbjkaagreat", sum := "f45c82baecafc02a12d2498ba9bf501463dca812ae57084e8bba783b52bb8c27", func := "locket/locketlaw18.ClientPlays", spec := "clientPlays", inPlace := ["maps.clone", "slices.overlaps[locket/policy.Member]", "math/bits.Add64"], unfollowed := true, recurses := true, plainKeys := false, apart := false }
def ClientPlaysSaid : Prop := clientPlaysRow.holds Tryz.pinned (OpenSpec.ofChange clientPlaysSpec)

/-- ITS FALSE NEIGHBOUR: 'it returns false'. Refute it at one input. -/
def clientPlaysWrong : ChangeSpec := { name := "clientPlays", fn := fun _ => fun
  | [d1, d2, d3] => { results := [.lit (.bool false)], args := [d1, d2, d3] }
  | _ => none }
def ClientPlaysWrongFalsely : Prop := clientPlaysRow.holds Tryz.pinned (OpenSpec.ofChange clientPlaysWrong)

/- THE SECOND FORM. 'bulk': how many values and letters a reading holds, each counted each time it is reached (what is shared counts as often as it is met; a slice's spare places count too). A statement '..UptoSaid' is the law's where the arguments, and the package variables that the reading takes, are together of bulk at most 1048576: NARROWER than '..Said'. Prove '..Said' where nothing that the law and all that it calls make is longer than what came in: it says more and counts as full. Else prove '..UptoSaid'. A law counts once. -/
mutual
def uptoBulk {H : Type} : DataW H → Nat
  | .lit (.string bytes) => bytes.length + 1
  | .lit _ => 1
  | .nil => 1
  | .ptr d => uptoBulk d + 1
  | .slice elems spare => uptoBulkAll elems + uptoBulkAll spare + 1
  | .agg parts => uptoBulkAll parts + 1
  | .iface _ d => uptoBulk d + 1
  | .map entries => uptoBulkEntries entries + 1
  | .held _ => 1
def uptoBulkAll {H : Type} : List (DataW H) → Nat
  | [] => 0
  | d :: r => uptoBulk d + uptoBulkAll r
def uptoBulkEntries {H : Type} : List (Lit × DataW H) → Nat
  | [] => 0
  | x :: r => uptoBulkEntry x + uptoBulkEntries r
def uptoBulkEntry {H : Type} : Lit × DataW H → Nat
  | (.string bytes, d) => bytes.length + uptoBulk d + 1
  | (_, d) => uptoBulk d + 1
 end
def uptoSmall : (H : Type) → List (DataW H) → Bool := fun _ ds => decide (uptoBulkAll ds ≤ 1048576)
def OpenSpec.upto (s : _root_.Go.ChangeSpec) : _root_.Go.OpenSpec := { _root_.Go.OpenSpec.ofChange s with cond := some uptoSmall }

/-- 'locketlaw18.ClientAgain', WHERE WHAT IT READS IS OF BULK AT MOST 1048576: true; the input reads as it did. -/
def clientAgainUptoRow : OpenClaim := { program := "ytanpinfhlbbjkaagreat", sum := "f45c82baecafc02a12d2498ba9bf501463dca812ae57084e8bba783b52bb8c27", func := "locket/locketlaw18.ClientAgain", spec := "clientAgain", inPlace := ["maps.clone", "slices.overlaps[locket/policy.Member]", "math/bits.Add64"], unfollowed := true, recurses := true, plainKeys := false, apart := false, narrowed := true }
def ClientAgainUptoSaid : Prop := clientAgainUptoRow.holds Tryz.pinned (OpenSpec.upto clientAgainSpec)

/-- 'locketlaw18.ClientStill', WHERE WHAT IT READS IS OF BULK AT MOST 1048576: true; the input reads as it did. -/
def clientStillUptoRow : OpenClaim := { program := "ytanpinfhlbbjkaagreat", sum := "f45c82baecafc02a12d2498ba9bf501463dca812ae57084e8bba783b52bb8c27", func := "locket/locketlaw18.ClientStill", spec := "clientStill", inPlace := ["maps.clone", "slices.overlaps[locket/policy.Member]", "math/bits.Add64"], unfollowed := true, recurses := true, plainKeys := false, apart := false, narrowed := true }
def ClientStillUptoSaid : Prop := clientStillUptoRow.holds Tryz.pinned (OpenSpec.upto clientStillSpec)

/-- 'locketlaw18.ClientAlarms', WHERE WHAT IT READS IS OF BULK AT MOST 1048576: true; the input reads as it did. -/
def clientAlarmsUptoRow : OpenClaim := { program := "ytanpinfhlbbjkaagreat", sum := "f45c82baecafc02a12d2498ba9bf501463dca812ae57084e8bba783b52bb8c27", func := "locket/locketlaw18.ClientAlarms", spec := "clientAlarms", inPlace := ["maps.clone", "slices.overlaps[locket/policy.Member]", "math/bits.Add64"], unfollowed := true, recurses := true, plainKeys := false, apart := false, narrowed := true }
def ClientAlarmsUptoSaid : Prop := clientAlarmsUptoRow.holds Tryz.pinned (OpenSpec.upto clientAlarmsSpec)

/-- 'locketlaw18.ClientDone', WHERE WHAT IT READS IS OF BULK AT MOST 1048576: true; the input reads as it did. -/
def clientDoneUptoRow : OpenClaim := { program := "ytanpinfhlbbjkaagreat", sum := "f45c82baecafc02a12d2498ba9bf501463dca812ae57084e8bba783b52bb8c27", func := "locket/locketlaw18.ClientDone", spec := "clientDone", inPlace := ["maps.clone", "slices.overlaps[locket/policy.Member]", "math/bits.Add64"], unfollowed := true, recurses := true, plainKeys := false, apart := false, narrowed := true }
def ClientDoneUptoSaid : Prop := clientDoneUptoRow.holds Tryz.pinned (OpenSpec.upto clientDoneSpec)

/-- 'locketlaw18.ClientSees', WHERE WHAT IT READS IS OF BULK AT MOST 1048576: true; the input reads as it did. -/
def clientSeesUptoRow : OpenClaim := { program := "ytanpinfhlbbjkaagreat", sum := "f45c82baecafc02a12d2498ba9bf501463dca812ae57084e8bba783b52bb8c27", func := "locket/locketlaw18.ClientSees", spec := "clientSees", inPlace := ["maps.clone", "slices.overlaps[locket/policy.Member]", "math/bits.Add64"], unfollowed := true, recurses := true, plainKeys := false, apart := false, narrowed := true }
def ClientSeesUptoSaid : Prop := clientSeesUptoRow.holds Tryz.pinned (OpenSpec.upto clientSeesSpec)

/-- 'locketlaw18.ClientPlays', WHERE WHAT IT READS IS OF BULK AT MOST 1048576: true; the input reads as it did. -/
def clientPlaysUptoRow : OpenClaim := { program := "ytanpinfhlbbjkaagreat", sum := "f45c82baecafc02a12d2498ba9bf501463dca812ae57084e8bba783b52bb8c27", func := "locket/locketlaw18.ClientPlays", spec := "clientPlays", inPlace := ["maps.clone", "slices.overlaps[locket/policy.Member]", "math/bits.Add64"], unfollowed := true, recurses := true, plainKeys := false, apart := false, narrowed := true }
def ClientPlaysUptoSaid : Prop := clientPlaysUptoRow.holds Tryz.pinned (OpenSpec.upto clientPlaysSpec)

end Rows
end Go.Proofs.YtanpinfhlbbjkaaGreat
