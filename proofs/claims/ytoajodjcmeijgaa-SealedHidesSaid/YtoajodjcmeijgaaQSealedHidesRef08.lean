import Derived.Test.YtoajodjcmeijgaaQSealedHidesReader
set_option linter.unusedVariables false
set_option linter.unusedSimpArgs false
namespace Go.Proofs.Ytoajodjcmeijgaa
open Go.RowKit Go.Ecal
def sixL (n : Int) (j : Nat) : List UInt8 := List.replicate (6 - j) (0 : UInt8) ++ (be6 n).drop (6 - j)
theorem six_zero (n : Int) : List.replicate 6 (0 : UInt8) = sixL n 0 := rfl
theorem six_set {n : Int} {j : Nat} (hj : j < 6) {i : Nat} (hi : i = 5 - j) : (sixL n j).set i (bof (n / 256 ^ j)) = sixL n (j + 1) := by
  subst hi
  have : j = 0 ∨ j = 1 ∨ j = 2 ∨ j = 3 ∨ j = 4 ∨ j = 5 := by omega
  rcases this with rfl | rfl | rfl | rfl | rfl | rfl <;> first | rfl | (simp only [Int.pow_zero, Int.ediv_one]; rfl)
theorem six_end (n : Int) : sixL n 6 = be6 n := rfl
theorem six_len {n : Int} {j : Nat} (hj : j ≤ 6) : (sixL n j).length = 6 := by simp only [sixL, List.length_append, List.length_replicate, List.length_drop]; rw [show (be6 n).length = 6 from rfl]; omega
theorem six_next (n q : Int) (j : Nat) (h : q = n / 256 ^ j) : q / 256 = n / 256 ^ (j + 1) := by
  rw [h, Int.pow_succ, Int.ediv_ediv_of_nonneg (Int.pow_nonneg (by decide))]
/-- The document's reader in the memory: bytes, a place in them, and is it bad? -/
def RdQ (p : Value) (r : Rd) : HP := .ex fun b => .ex fun v => .ex fun (B : List UInt8) => .ex fun (t : Nat) => Sep [.prop (p = ptr b ∧ v.oneCell' = true ∧ t ≤ B.length ∧ B.length ≤ 1000000000 ∧ r.l = B.drop t), .fact ⟨fun I => RoB I v B, fun k h => h.up k⟩, Blk b 99 [v, .int .i64 (t : Int), .bool r.bad]]
theorem RdQ.opn {w : World} {I : Gh} {R : List HP} {p : Value} {r : Rd} (S : Sat w I (RdQ p r :: R)) : ∃ (b : Nat) (v : Value) (B : List UInt8) (t : Nat), p = ptr b ∧ v.oneCell' = true ∧ t ≤ B.length ∧ B.length ≤ 1000000000 ∧ r.l = B.drop t ∧ RoB I v B ∧ Sat w I (Blk b 99 [v, .int .i64 (t : Int), .bool r.bad] :: R) := by
  obtain ⟨b, S⟩ := S.unex; obtain ⟨v, S⟩ := S.unex; obtain ⟨B, S⟩ := S.unex; obtain ⟨t, S⟩ := S.unex
  obtain ⟨⟨h1, h2, h3, h4, h5⟩, S⟩ := S.split.unprop
  obtain ⟨h6, S⟩ := S.unfact
  exact ⟨b, v, B, t, h1, h2, h3, h4, h5, h6, S⟩
theorem RdQ.cls {w : World} {I : Gh} {R : List HP} {b : Nat} {v : Value} {r : Rd} {B : List UInt8} {t : Bool} {x : Int} (n : Nat) (ho : v.oneCell' = true) (hA : RoB I v B) (hB : B.length ≤ 1000000000) (hn : x = (n : Int)) (hle : n ≤ B.length) (hr : (⟨B.drop n, t⟩ : Rd) = r) (S : Sat w I (Blk b 99 [v, .int .i64 x, .bool t] :: R)) : Sat w I (RdQ (ptr b) r :: R) := by
  subst hr; subst hn; exact Sat.toex b (Sat.toex v (Sat.toex B (Sat.toex n (Sat.join [_, _, _] ((S.tofact hA).toprop ⟨rfl, ho, hle, hB, rfl⟩)))))
theorem RdQ.ptr {w : World} {I : Gh} {R : List HP} {p : Value} {r : Rd} (S : Sat w I (RdQ p r :: R)) : ∃ b, p = Go.Ecal.ptr b := let ⟨b, _, _, _, h, _⟩ := RdQ.opn S; ⟨b, h⟩
theorem RdQ.at {w : World} {I : Gh} {R : List HP} {b : Nat} {r : Rd} (S : Sat w I (RdQ (Go.Ecal.ptr b) r :: R)) : ∃ (v : Value) (B : List UInt8) (t : Nat), v.oneCell' = true ∧ t ≤ B.length ∧ B.length ≤ 1000000000 ∧ r.l = B.drop t ∧ RoB I v B ∧ Sat w I (Blk b 99 [v, .int .i64 (t : Int), .bool r.bad] :: R) := by
  obtain ⟨b', v, B, t, h, h1, h2, h3, h4, h5, S⟩ := RdQ.opn S
  have : b = b' := by simpa [Go.Ecal.ptr] using h
  subst this; exact ⟨v, B, t, h1, h2, h3, h4, h5, S⟩
end Go.Proofs.Ytoajodjcmeijgaa
