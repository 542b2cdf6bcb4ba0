import Derived.Test.YtoajodjcmeijgaaQSealedHidesSealed
import Derived.Test.YtoajodjcmeijgaaQSealedHidesRef08
set_option linter.unusedVariables false
set_option linter.unusedSimpArgs false
namespace Go.Proofs.Ytoajodjcmeijgaa
open Go.RowKit Go.Ecal
theorem size13_at {n : Int} {j : Nat} (hj : j < 6) (h0 : 0 ≤ n) (hN : (0 < j → 62 < n) ∧ (1 < j → 126 < n) ∧ (2 < j → 254 < n) ∧ (3 < j → 510 < n) ∧ (4 < j → 1022 < n)) {z : Int} (hz : [64, 128, 256, 512, 1024, 2048][j]? = some z) (h : n ≤ z - 2) : bsize n = z := by
  have : j = 0 ∨ j = 1 ∨ j = 2 ∨ j = 3 ∨ j = 4 ∨ j = 5 := by omega
  rcases this with rfl | rfl | rfl | rfl | rfl | rfl <;> (simp at hz; subst hz; unfold bsize; repeat' split) <;> omega
theorem size13_end {n : Int} (h : n < 0 ∨ 2046 < n) : bsize n = 0 := (bsize_no n h).1
theorem rec_eqb (a b : Record) : ((((decide (a.coll = b.coll) && decide (a.epoch = b.epoch)) && decide (a.writer = b.writer)) && decide (a.count = b.count)) && decide (a.box = b.box)) = decide (a = b) := by
  rw [Bool.eq_iff_iff]; simp only [Bool.and_eq_true, decide_eq_true_eq]
  cases a; cases b; simp; grind
end Go.Proofs.Ytoajodjcmeijgaa
