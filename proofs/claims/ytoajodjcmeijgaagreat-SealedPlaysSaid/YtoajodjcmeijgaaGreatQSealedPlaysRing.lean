import Derived.Test.YtoajodjcmeijgaaGreatQSealedPlaysCode
import Derived.Test.YtoajodjcmeijgaaGreatQSealedPlaysSigns
set_option linter.unusedVariables false
set_option linter.unusedSimpArgs false
namespace Go.Proofs.YtoajodjcmeijgaaGreat
open Go.RowKit Go.Ecal
abbrev uWriter : List UInt8 := [119, 114, 105, 116, 101, 114]
/-- What a key for a use, of a number, is the code of. -/
abbrev derT (s use : List UInt8) (n : Int) : Thing := tCode s (use ++ be6 n)
def keyFor (L : List Thing) (s use : List UInt8) (n : Int) : List UInt8 := signOf 77 (onceN (derT s use n) L : Int)
def rightW (n : Int) : Bool := decide (1 ≤ n) && decide (n ≤ 16)
theorem rightW_iff {n : Int} : rightW n = true ↔ 1 ≤ n ∧ n ≤ 16 := by simp [rightW]
def rightE (n : Int) : Int := if rightW n then 0 else 12
def rightB (L : List Thing) (s use : List UInt8) (n : Int) : List UInt8 := if rightW n then keyFor L s use n else []
def rightL (L : List Thing) (s use : List UInt8) (n : Int) : List Thing := if rightW n then onceL (derT s use n) L else L
def nonceOk (a b : Int) : Bool := decide (0 ≤ a ∧ a ≤ 4294967295 ∧ 0 ≤ b ∧ b ≤ 1099511627776)
def nonceE (a b : Int) : Int := if nonceOk a b then 0 else 12
def nonceB (a b : Int) : List UInt8 := if nonceOk a b then be6 a ++ be6 b else []
theorem nonceOk_iff {a b : Int} : nonceOk a b = true ↔ 0 ≤ a ∧ a ≤ 4294967295 ∧ 0 ≤ b ∧ b ≤ 1099511627776 := by simp [nonceOk]
theorem rightL_len (L : List Thing) (s use : List UInt8) (n : Int) : (rightL L s use n).length ≤ L.length + 1 := by
  unfold rightL; split
  · exact onceL_len _ _
  · omega
theorem rightB_len (L : List Thing) (s use : List UInt8) (n : Int) : (rightB L s use n).length ≤ 32 := by
  unfold rightB; split
  · rw [keyFor, sign_len]; decide
  · simp
end Go.Proofs.YtoajodjcmeijgaaGreat
