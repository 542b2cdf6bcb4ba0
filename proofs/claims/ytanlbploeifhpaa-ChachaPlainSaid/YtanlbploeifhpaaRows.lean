/-
  No cell of these rows narrows 'for every input' (looked for: loops, veiled, ifaces, maps, wideKeys, modest, calm, conditions, laid).
  DERIVED. THE GIVEN ROWS OF THIS SEAT. 6 by the template 'for every input the law returns true; each argument reads behind the call as it read before'; 0 by the template 'total and deterministic' (their statements: YtanlbploeifhpaaTotals.lean).
  GIVEN WITH THE SEED: the statements are not yours to turn. If you find one false, say at which input.
  Laid BY PROGRAM, IN A SANDBOX (cutbox-rows.mjs): the forced cells as the released guide's own fill.sh prints them over the translation bcea9de9ba288579… (all of the seat's roots in one cut). By AI agents, Wed Nov 11 2026. No macro, syntax, notation, axiom, sorry.
-/
import Derived.Test.YtanlbploeifhpaaChecked
import GoSem.Claim
import GoSem.ClaimJoined
import GoSem.ClaimMapViews
import Derived.JoinedTies
import Derived.KernelRfl
namespace Go.Proofs.Ytanlbploeifhpaa
/- THE CELL 'sum', in the pinned program and in every row, IS THE sha256 OF THE DUMP (.gsa) THAT YtanlbploeifhpaaProg.lean LOADS. Nothing in Lean hashes anything: it is a label: what it is worth is what the hold of that sum in a sandbox is worth. -/
noncomputable def Try.pinned : Pinned := { name := "ytanlbploeifhpaa", sum := "bcea9de9ba2885795587a28fa3dcc5bbd8bd19a1933365ec2234e31d556e0efd", checked := Try.checked }
namespace Rows
def none {H : Type} : Left H := { results := [], args := [] }

/-- 'locketlaw03.ChachaBlocks': WHATEVER THE INPUT: true; the input reads as it did. -/
def chachaBlocksSpec : ChangeSpec := { name := "chachaBlocks", fn := fun _ => fun
  | [d1, d2, d3] => { results := [.lit (.bool true)], args := [d1, d2, d3] }
  | _ => none }
def chachaBlocksRow : OpenClaim := { program := "ytanlbploeifhpaa", sum := "bcea9de9ba2885795587a28fa3dcc5bbd8bd19a1933365ec2234e31d556e0efd", func := "locket/locketlaw03.ChachaBlocks", spec := "chachaBlocks", apart := false }
def ChachaBlocksSaid : Prop := chachaBlocksRow.holds Try.pinned (OpenSpec.ofChange chachaBlocksSpec)

/-- ITS FALSE NEIGHBOUR: 'it returns false'. Refute it at one input. -/
def chachaBlocksWrong : ChangeSpec := { name := "chachaBlocks", fn := fun _ => fun
  | [d1, d2, d3] => { results := [.lit (.bool false)], args := [d1, d2, d3] }
  | _ => none }
def ChachaBlocksWrongFalsely : Prop := chachaBlocksRow.holds Try.pinned (OpenSpec.ofChange chachaBlocksWrong)

/-- 'locketlaw03.ChachaTexts': WHATEVER THE INPUT: true; the input reads as it did. -/
def chachaTextsSpec : ChangeSpec := { name := "chachaTexts", fn := fun _ => fun
  | [d1, d2, d3, d4] => { results := [.lit (.bool true)], args := [d1, d2, d3, d4] }
  | _ => none }
def chachaTextsRow : OpenClaim := { program := "ytanlbploeifhpaa", sum := "bcea9de9ba2885795587a28fa3dcc5bbd8bd19a1933365ec2234e31d556e0efd", func := "locket/locketlaw03.ChachaTexts", spec := "chachaTexts", apart := false }
def ChachaTextsSaid : Prop := chachaTextsRow.holds Try.pinned (OpenSpec.ofChange chachaTextsSpec)

/-- ITS FALSE NEIGHBOUR: 'it returns false'. Refute it at one input. -/
def chachaTextsWrong : ChangeSpec := { name := "chachaTexts", fn := fun _ => fun
  | [d1, d2, d3, d4] => { results := [.lit (.bool false)], args := [d1, d2, d3, d4] }
  | _ => none }
def ChachaTextsWrongFalsely : Prop := chachaTextsRow.holds Try.pinned (OpenSpec.ofChange chachaTextsWrong)

/-- 'locketlaw03.ChachaCuts': WHATEVER THE INPUT: true; the input reads as it did. -/
def chachaCutsSpec : ChangeSpec := { name := "chachaCuts", fn := fun _ => fun
  | [d1, d2, d3, d4, d5] => { results := [.lit (.bool true)], args := [d1, d2, d3, d4, d5] }
  | _ => none }
def chachaCutsRow : OpenClaim := { program := "ytanlbploeifhpaa", sum := "bcea9de9ba2885795587a28fa3dcc5bbd8bd19a1933365ec2234e31d556e0efd", func := "locket/locketlaw03.ChachaCuts", spec := "chachaCuts", apart := false }
def ChachaCutsSaid : Prop := chachaCutsRow.holds Try.pinned (OpenSpec.ofChange chachaCutsSpec)

/-- ITS FALSE NEIGHBOUR: 'it returns false'. Refute it at one input. -/
def chachaCutsWrong : ChangeSpec := { name := "chachaCuts", fn := fun _ => fun
  | [d1, d2, d3, d4, d5] => { results := [.lit (.bool false)], args := [d1, d2, d3, d4, d5] }
  | _ => none }
def ChachaCutsWrongFalsely : Prop := chachaCutsRow.holds Try.pinned (OpenSpec.ofChange chachaCutsWrong)

/-- 'locketlaw03.ChachaPlain': WHATEVER THE INPUT: true; the input reads as it did. -/
def chachaPlainSpec : ChangeSpec := { name := "chachaPlain", fn := fun _ => fun
  | [d1, d2, d3, d4] => { results := [.lit (.bool true)], args := [d1, d2, d3, d4] }
  | _ => none }
def chachaPlainRow : OpenClaim := { program := "ytanlbploeifhpaa", sum := "bcea9de9ba2885795587a28fa3dcc5bbd8bd19a1933365ec2234e31d556e0efd", func := "locket/locketlaw03.ChachaPlain", spec := "chachaPlain", apart := false }
def ChachaPlainSaid : Prop := chachaPlainRow.holds Try.pinned (OpenSpec.ofChange chachaPlainSpec)

/-- ITS FALSE NEIGHBOUR: 'it returns false'. Refute it at one input. -/
def chachaPlainWrong : ChangeSpec := { name := "chachaPlain", fn := fun _ => fun
  | [d1, d2, d3, d4] => { results := [.lit (.bool false)], args := [d1, d2, d3, d4] }
  | _ => none }
def ChachaPlainWrongFalsely : Prop := chachaPlainRow.holds Try.pinned (OpenSpec.ofChange chachaPlainWrong)

/-- 'locketlaw03.ChachaShort': WHATEVER THE INPUT: true; the input reads as it did. -/
def chachaShortSpec : ChangeSpec := { name := "chachaShort", fn := fun _ => fun
  | [d1, d2, d3, d4, d5] => { results := [.lit (.bool true)], args := [d1, d2, d3, d4, d5] }
  | _ => none }
def chachaShortRow : OpenClaim := { program := "ytanlbploeifhpaa", sum := "bcea9de9ba2885795587a28fa3dcc5bbd8bd19a1933365ec2234e31d556e0efd", func := "locket/locketlaw03.ChachaShort", spec := "chachaShort", apart := false }
def ChachaShortSaid : Prop := chachaShortRow.holds Try.pinned (OpenSpec.ofChange chachaShortSpec)

/-- ITS FALSE NEIGHBOUR: 'it returns false'. Refute it at one input. -/
def chachaShortWrong : ChangeSpec := { name := "chachaShort", fn := fun _ => fun
  | [d1, d2, d3, d4, d5] => { results := [.lit (.bool false)], args := [d1, d2, d3, d4, d5] }
  | _ => none }
def ChachaShortWrongFalsely : Prop := chachaShortRow.holds Try.pinned (OpenSpec.ofChange chachaShortWrong)

/-- 'locketlaw03.ChachaMixes': WHATEVER THE INPUT: true; the input reads as it did. -/
def chachaMixesSpec : ChangeSpec := { name := "chachaMixes", fn := fun _ => fun
  | [d1, d2, d3, d4, d5] => { results := [.lit (.bool true)], args := [d1, d2, d3, d4, d5] }
  | _ => none }
def chachaMixesRow : OpenClaim := { program := "ytanlbploeifhpaa", sum := "bcea9de9ba2885795587a28fa3dcc5bbd8bd19a1933365ec2234e31d556e0efd", func := "locket/locketlaw03.ChachaMixes", spec := "chachaMixes", apart := false }
def ChachaMixesSaid : Prop := chachaMixesRow.holds Try.pinned (OpenSpec.ofChange chachaMixesSpec)

/-- ITS FALSE NEIGHBOUR: 'it returns false'. Refute it at one input. -/
def chachaMixesWrong : ChangeSpec := { name := "chachaMixes", fn := fun _ => fun
  | [d1, d2, d3, d4, d5] => { results := [.lit (.bool false)], args := [d1, d2, d3, d4, d5] }
  | _ => none }
def ChachaMixesWrongFalsely : Prop := chachaMixesRow.holds Try.pinned (OpenSpec.ofChange chachaMixesWrong)

/- THE SECOND FORM. 'bulk': how many values and letters a reading holds, each counted each time it is reached (what is shared counts as often as it is met; a slice's spare places count too). A statement '..UptoSaid' is the law's where the arguments, and the package variables that the reading takes, are together of bulk at most 1048576: NARROWER than '..Said'. Prove '..Said' where nothing that the law and all that it calls make is longer than what came in: it says more and counts as full. Else prove '..UptoSaid'. A law counts once. -/
mutual
def uptoBulk {H : Type} : DataW H → Nat
  | .lit (.string bytes) => bytes.length + 1
  | .lit _ => 1
  | .nil => 1
  | .ptr d => uptoBulk d + 1
  | .slice elems spare => uptoBulkAll elems + uptoBulkAll spare + 1
  | .agg parts => uptoBulkAll parts + 1
  | .iface _ d => uptoBulk d + 1
  | .map entries => uptoBulkEntries entries + 1
  | .held _ => 1
def uptoBulkAll {H : Type} : List (DataW H) → Nat
  | [] => 0
  | d :: r => uptoBulk d + uptoBulkAll r
def uptoBulkEntries {H : Type} : List (Lit × DataW H) → Nat
  | [] => 0
  | x :: r => uptoBulkEntry x + uptoBulkEntries r
def uptoBulkEntry {H : Type} : Lit × DataW H → Nat
  | (.string bytes, d) => bytes.length + uptoBulk d + 1
  | (_, d) => uptoBulk d + 1
 end
def uptoSmall : (H : Type) → List (DataW H) → Bool := fun _ ds => decide (uptoBulkAll ds ≤ 1048576)
def OpenSpec.upto (s : _root_.Go.ChangeSpec) : _root_.Go.OpenSpec := { _root_.Go.OpenSpec.ofChange s with cond := some uptoSmall }

/-- 'locketlaw03.ChachaBlocks', WHERE WHAT IT READS IS OF BULK AT MOST 1048576: true; the input reads as it did. -/
def chachaBlocksUptoRow : OpenClaim := { program := "ytanlbploeifhpaa", sum := "bcea9de9ba2885795587a28fa3dcc5bbd8bd19a1933365ec2234e31d556e0efd", func := "locket/locketlaw03.ChachaBlocks", spec := "chachaBlocks", apart := false, narrowed := true }
def ChachaBlocksUptoSaid : Prop := chachaBlocksUptoRow.holds Try.pinned (OpenSpec.upto chachaBlocksSpec)

/-- 'locketlaw03.ChachaTexts', WHERE WHAT IT READS IS OF BULK AT MOST 1048576: true; the input reads as it did. -/
def chachaTextsUptoRow : OpenClaim := { program := "ytanlbploeifhpaa", sum := "bcea9de9ba2885795587a28fa3dcc5bbd8bd19a1933365ec2234e31d556e0efd", func := "locket/locketlaw03.ChachaTexts", spec := "chachaTexts", apart := false, narrowed := true }
def ChachaTextsUptoSaid : Prop := chachaTextsUptoRow.holds Try.pinned (OpenSpec.upto chachaTextsSpec)

/-- 'locketlaw03.ChachaCuts', WHERE WHAT IT READS IS OF BULK AT MOST 1048576: true; the input reads as it did. -/
def chachaCutsUptoRow : OpenClaim := { program := "ytanlbploeifhpaa", sum := "bcea9de9ba2885795587a28fa3dcc5bbd8bd19a1933365ec2234e31d556e0efd", func := "locket/locketlaw03.ChachaCuts", spec := "chachaCuts", apart := false, narrowed := true }
def ChachaCutsUptoSaid : Prop := chachaCutsUptoRow.holds Try.pinned (OpenSpec.upto chachaCutsSpec)

/-- 'locketlaw03.ChachaPlain', WHERE WHAT IT READS IS OF BULK AT MOST 1048576: true; the input reads as it did. -/
def chachaPlainUptoRow : OpenClaim := { program := "ytanlbploeifhpaa", sum := "bcea9de9ba2885795587a28fa3dcc5bbd8bd19a1933365ec2234e31d556e0efd", func := "locket/locketlaw03.ChachaPlain", spec := "chachaPlain", apart := false, narrowed := true }
def ChachaPlainUptoSaid : Prop := chachaPlainUptoRow.holds Try.pinned (OpenSpec.upto chachaPlainSpec)

/-- 'locketlaw03.ChachaShort', WHERE WHAT IT READS IS OF BULK AT MOST 1048576: true; the input reads as it did. -/
def chachaShortUptoRow : OpenClaim := { program := "ytanlbploeifhpaa", sum := "bcea9de9ba2885795587a28fa3dcc5bbd8bd19a1933365ec2234e31d556e0efd", func := "locket/locketlaw03.ChachaShort", spec := "chachaShort", apart := false, narrowed := true }
def ChachaShortUptoSaid : Prop := chachaShortUptoRow.holds Try.pinned (OpenSpec.upto chachaShortSpec)

/-- 'locketlaw03.ChachaMixes', WHERE WHAT IT READS IS OF BULK AT MOST 1048576: true; the input reads as it did. -/
def chachaMixesUptoRow : OpenClaim := { program := "ytanlbploeifhpaa", sum := "bcea9de9ba2885795587a28fa3dcc5bbd8bd19a1933365ec2234e31d556e0efd", func := "locket/locketlaw03.ChachaMixes", spec := "chachaMixes", apart := false, narrowed := true }
def ChachaMixesUptoSaid : Prop := chachaMixesUptoRow.holds Try.pinned (OpenSpec.upto chachaMixesSpec)

end Rows
end Go.Proofs.Ytanlbploeifhpaa
