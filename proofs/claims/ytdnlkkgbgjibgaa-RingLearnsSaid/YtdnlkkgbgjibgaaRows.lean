/-
  No cell of these rows narrows 'for every input' (looked for: loops, veiled, ifaces, maps, wideKeys, modest, calm, conditions, laid).
  DERIVED. THE GIVEN ROWS OF THIS SEAT. 5 by the template 'for every input the law returns true; each argument reads behind the call as it read before'; 0 by the template 'total and deterministic' (their statements: YtdnlkkgbgjibgaaTotals.lean).
  GIVEN WITH THE SEED: the statements are not yours to turn. If you find one false, say at which input.
  Laid BY PROGRAM, IN A SANDBOX (cutbox-rows.mjs): the forced cells as the released guide's own fill.sh prints them over the translation 534e5e2f5a5604b2… (all of the seat's roots in one cut). By AI agents, Wed Nov 11 2026. No macro, syntax, notation, axiom, sorry.
-/
import Derived.Test.YtdnlkkgbgjibgaaChecked
import GoSem.Claim
import GoSem.ClaimJoined
import GoSem.ClaimMapViews
import Derived.JoinedTies
import Derived.KernelRfl
namespace Go.Proofs.Ytdnlkkgbgjibgaa
/- THE CELL 'sum', in the pinned program and in every row, IS THE sha256 OF THE DUMP (.gsa) THAT YtdnlkkgbgjibgaaProg.lean LOADS. Nothing in Lean hashes anything: it is a label: what it is worth is what the hold of that sum in a sandbox is worth. -/
noncomputable def Try.pinned : Pinned := { name := "ytdnlkkgbgjibgaa", sum := "534e5e2f5a5604b2e7727a5e44eb2477401120d106b47b56b5613770b7d0cbd2", checked := Try.checked }
namespace Rows
def none {H : Type} : Left H := { results := [], args := [] }

/-- 'locketlaw14.RingNonces': WHATEVER THE INPUT: true; the input reads as it did. -/
def ringNoncesSpec : ChangeSpec := { name := "ringNonces", fn := fun _ => fun
  | [d1, d2, d3, d4] => { results := [.lit (.bool true)], args := [d1, d2, d3, d4] }
  | _ => none }
def ringNoncesRow : OpenClaim := { program := "ytdnlkkgbgjibgaa", sum := "534e5e2f5a5604b2e7727a5e44eb2477401120d106b47b56b5613770b7d0cbd2", func := "locket/locketlaw14.RingNonces", spec := "ringNonces", inPlace := ["math/bits.Add64"], plainKeys := false, apart := false }
def RingNoncesSaid : Prop := ringNoncesRow.holds Try.pinned (OpenSpec.ofChange ringNoncesSpec)

/-- ITS FALSE NEIGHBOUR: 'it returns false'. Refute it at one input. -/
def ringNoncesWrong : ChangeSpec := { name := "ringNonces", fn := fun _ => fun
  | [d1, d2, d3, d4] => { results := [.lit (.bool false)], args := [d1, d2, d3, d4] }
  | _ => none }
def RingNoncesWrongFalsely : Prop := ringNoncesRow.holds Try.pinned (OpenSpec.ofChange ringNoncesWrong)

/-- 'locketlaw14.RingWraps': WHATEVER THE INPUT: true; the input reads as it did. -/
def ringWrapsSpec : ChangeSpec := { name := "ringWraps", fn := fun _ => fun
  | [d1, d2, d3, d4, d5, d6] => { results := [.lit (.bool true)], args := [d1, d2, d3, d4, d5, d6] }
  | _ => none }
def ringWrapsRow : OpenClaim := { program := "ytdnlkkgbgjibgaa", sum := "534e5e2f5a5604b2e7727a5e44eb2477401120d106b47b56b5613770b7d0cbd2", func := "locket/locketlaw14.RingWraps", spec := "ringWraps", inPlace := ["math/bits.Add64"], plainKeys := false, apart := false }
def RingWrapsSaid : Prop := ringWrapsRow.holds Try.pinned (OpenSpec.ofChange ringWrapsSpec)

/-- ITS FALSE NEIGHBOUR: 'it returns false'. Refute it at one input. -/
def ringWrapsWrong : ChangeSpec := { name := "ringWraps", fn := fun _ => fun
  | [d1, d2, d3, d4, d5, d6] => { results := [.lit (.bool false)], args := [d1, d2, d3, d4, d5, d6] }
  | _ => none }
def RingWrapsWrongFalsely : Prop := ringWrapsRow.holds Try.pinned (OpenSpec.ofChange ringWrapsWrong)

/-- 'locketlaw14.RingUses': WHATEVER THE INPUT: true; the input reads as it did. -/
def ringUsesSpec : ChangeSpec := { name := "ringUses", fn := fun _ => fun
  | [d1, d2, d3, d4] => { results := [.lit (.bool true)], args := [d1, d2, d3, d4] }
  | _ => none }
def ringUsesRow : OpenClaim := { program := "ytdnlkkgbgjibgaa", sum := "534e5e2f5a5604b2e7727a5e44eb2477401120d106b47b56b5613770b7d0cbd2", func := "locket/locketlaw14.RingUses", spec := "ringUses", inPlace := ["math/bits.Add64"], plainKeys := false, apart := false }
def RingUsesSaid : Prop := ringUsesRow.holds Try.pinned (OpenSpec.ofChange ringUsesSpec)

/-- ITS FALSE NEIGHBOUR: 'it returns false'. Refute it at one input. -/
def ringUsesWrong : ChangeSpec := { name := "ringUses", fn := fun _ => fun
  | [d1, d2, d3, d4] => { results := [.lit (.bool false)], args := [d1, d2, d3, d4] }
  | _ => none }
def RingUsesWrongFalsely : Prop := ringUsesRow.holds Try.pinned (OpenSpec.ofChange ringUsesWrong)

/-- 'locketlaw14.RingReal': WHATEVER THE INPUT: true; the input reads as it did. -/
def ringRealSpec : ChangeSpec := { name := "ringReal", fn := fun _ => fun
  | [d1, d2, d3, d4] => { results := [.lit (.bool true)], args := [d1, d2, d3, d4] }
  | _ => none }
def ringRealRow : OpenClaim := { program := "ytdnlkkgbgjibgaa", sum := "534e5e2f5a5604b2e7727a5e44eb2477401120d106b47b56b5613770b7d0cbd2", func := "locket/locketlaw14.RingReal", spec := "ringReal", inPlace := ["math/bits.Add64"], plainKeys := false, apart := false }
def RingRealSaid : Prop := ringRealRow.holds Try.pinned (OpenSpec.ofChange ringRealSpec)

/-- ITS FALSE NEIGHBOUR: 'it returns false'. Refute it at one input. -/
def ringRealWrong : ChangeSpec := { name := "ringReal", fn := fun _ => fun
  | [d1, d2, d3, d4] => { results := [.lit (.bool false)], args := [d1, d2, d3, d4] }
  | _ => none }
def RingRealWrongFalsely : Prop := ringRealRow.holds Try.pinned (OpenSpec.ofChange ringRealWrong)

/-- 'locketlaw14.RingLearns': WHATEVER THE INPUT: true; the input reads as it did. -/
def ringLearnsSpec : ChangeSpec := { name := "ringLearns", fn := fun _ => fun
  | [d1, d2] => { results := [.lit (.bool true)], args := [d1, d2] }
  | _ => none }
def ringLearnsRow : OpenClaim := { program := "ytdnlkkgbgjibgaa", sum := "534e5e2f5a5604b2e7727a5e44eb2477401120d106b47b56b5613770b7d0cbd2", func := "locket/locketlaw14.RingLearns", spec := "ringLearns", inPlace := ["math/bits.Add64"], plainKeys := false, apart := false }
def RingLearnsSaid : Prop := ringLearnsRow.holds Try.pinned (OpenSpec.ofChange ringLearnsSpec)

/-- ITS FALSE NEIGHBOUR: 'it returns false'. Refute it at one input. -/
def ringLearnsWrong : ChangeSpec := { name := "ringLearns", fn := fun _ => fun
  | [d1, d2] => { results := [.lit (.bool false)], args := [d1, d2] }
  | _ => none }
def RingLearnsWrongFalsely : Prop := ringLearnsRow.holds Try.pinned (OpenSpec.ofChange ringLearnsWrong)

/- THE SECOND FORM. 'bulk': how many values and letters a reading holds, each counted each time it is reached (what is shared counts as often as it is met; a slice's spare places count too). A statement '..UptoSaid' is the law's where the arguments, and the package variables that the reading takes, are together of bulk at most 1048576: NARROWER than '..Said'. Prove '..Said' where nothing that the law and all that it calls make is longer than what came in: it says more and counts as full. Else prove '..UptoSaid'. A law counts once. -/
mutual
def uptoBulk {H : Type} : DataW H → Nat
  | .lit (.string bytes) => bytes.length + 1
  | .lit _ => 1
  | .nil => 1
  | .ptr d => uptoBulk d + 1
  | .slice elems spare => uptoBulkAll elems + uptoBulkAll spare + 1
  | .agg parts => uptoBulkAll parts + 1
  | .iface _ d => uptoBulk d + 1
  | .map entries => uptoBulkEntries entries + 1
  | .held _ => 1
def uptoBulkAll {H : Type} : List (DataW H) → Nat
  | [] => 0
  | d :: r => uptoBulk d + uptoBulkAll r
def uptoBulkEntries {H : Type} : List (Lit × DataW H) → Nat
  | [] => 0
  | x :: r => uptoBulkEntry x + uptoBulkEntries r
def uptoBulkEntry {H : Type} : Lit × DataW H → Nat
  | (.string bytes, d) => bytes.length + uptoBulk d + 1
  | (_, d) => uptoBulk d + 1
 end
def uptoSmall : (H : Type) → List (DataW H) → Bool := fun _ ds => decide (uptoBulkAll ds ≤ 1048576)
def OpenSpec.upto (s : _root_.Go.ChangeSpec) : _root_.Go.OpenSpec := { _root_.Go.OpenSpec.ofChange s with cond := some uptoSmall }

/-- 'locketlaw14.RingNonces', WHERE WHAT IT READS IS OF BULK AT MOST 1048576: true; the input reads as it did. -/
def ringNoncesUptoRow : OpenClaim := { program := "ytdnlkkgbgjibgaa", sum := "534e5e2f5a5604b2e7727a5e44eb2477401120d106b47b56b5613770b7d0cbd2", func := "locket/locketlaw14.RingNonces", spec := "ringNonces", inPlace := ["math/bits.Add64"], plainKeys := false, apart := false, narrowed := true }
def RingNoncesUptoSaid : Prop := ringNoncesUptoRow.holds Try.pinned (OpenSpec.upto ringNoncesSpec)

/-- 'locketlaw14.RingWraps', WHERE WHAT IT READS IS OF BULK AT MOST 1048576: true; the input reads as it did. -/
def ringWrapsUptoRow : OpenClaim := { program := "ytdnlkkgbgjibgaa", sum := "534e5e2f5a5604b2e7727a5e44eb2477401120d106b47b56b5613770b7d0cbd2", func := "locket/locketlaw14.RingWraps", spec := "ringWraps", inPlace := ["math/bits.Add64"], plainKeys := false, apart := false, narrowed := true }
def RingWrapsUptoSaid : Prop := ringWrapsUptoRow.holds Try.pinned (OpenSpec.upto ringWrapsSpec)

/-- 'locketlaw14.RingUses', WHERE WHAT IT READS IS OF BULK AT MOST 1048576: true; the input reads as it did. -/
def ringUsesUptoRow : OpenClaim := { program := "ytdnlkkgbgjibgaa", sum := "534e5e2f5a5604b2e7727a5e44eb2477401120d106b47b56b5613770b7d0cbd2", func := "locket/locketlaw14.RingUses", spec := "ringUses", inPlace := ["math/bits.Add64"], plainKeys := false, apart := false, narrowed := true }
def RingUsesUptoSaid : Prop := ringUsesUptoRow.holds Try.pinned (OpenSpec.upto ringUsesSpec)

/-- 'locketlaw14.RingReal', WHERE WHAT IT READS IS OF BULK AT MOST 1048576: true; the input reads as it did. -/
def ringRealUptoRow : OpenClaim := { program := "ytdnlkkgbgjibgaa", sum := "534e5e2f5a5604b2e7727a5e44eb2477401120d106b47b56b5613770b7d0cbd2", func := "locket/locketlaw14.RingReal", spec := "ringReal", inPlace := ["math/bits.Add64"], plainKeys := false, apart := false, narrowed := true }
def RingRealUptoSaid : Prop := ringRealUptoRow.holds Try.pinned (OpenSpec.upto ringRealSpec)

/-- 'locketlaw14.RingLearns', WHERE WHAT IT READS IS OF BULK AT MOST 1048576: true; the input reads as it did. -/
def ringLearnsUptoRow : OpenClaim := { program := "ytdnlkkgbgjibgaa", sum := "534e5e2f5a5604b2e7727a5e44eb2477401120d106b47b56b5613770b7d0cbd2", func := "locket/locketlaw14.RingLearns", spec := "ringLearns", inPlace := ["math/bits.Add64"], plainKeys := false, apart := false, narrowed := true }
def RingLearnsUptoSaid : Prop := ringLearnsUptoRow.holds Try.pinned (OpenSpec.upto ringLearnsSpec)

end Rows
end Go.Proofs.Ytdnlkkgbgjibgaa
