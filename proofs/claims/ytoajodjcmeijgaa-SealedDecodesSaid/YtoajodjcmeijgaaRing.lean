/- Keys: of members, of writers, of epochs. -/
import Derived.Test.YtoajodjcmeijgaaCode
import Derived.Test.YtoajodjcmeijgaaSigns
set_option linter.unusedVariables false
set_option linter.unusedSimpArgs false
namespace Go.Proofs.Ytoajodjcmeijgaa
open Go.RowKit Go.Ecal
abbrev uMember : List UInt8 := [109, 101, 109, 98, 101, 114]
abbrev uWriter : List UInt8 := [119, 114, 105, 116, 101, 114]
abbrev uEpoch : List UInt8 := [101, 112, 111, 99, 104]
abbrev uWrap : List UInt8 := [119, 114, 97, 112]
/-- What a key for a use, of a number, is the code of. -/
abbrev derT (s use : List UInt8) (n : Int) : Thing := tCode s (use ++ be6 n)
def keyFor (L : List Thing) (s use : List UInt8) (n : Int) : List UInt8 := signOf 77 (onceN (derT s use n) L : Int)
def rightW (n : Int) : Bool := decide (1 ≤ n) && decide (n ≤ 16)
def spotW (w e : Int) : Bool := rightW w && (decide (1 ≤ e) && decide (e ≤ 16))
theorem rightW_iff {n : Int} : rightW n = true ↔ 1 ≤ n ∧ n ≤ 16 := by simp [rightW]
theorem spotW_iff {w e : Int} : spotW w e = true ↔ (1 ≤ w ∧ w ≤ 16) ∧ 1 ≤ e ∧ e ≤ 16 := by simp [spotW, rightW]
def rightE (n : Int) : Int := if rightW n then 0 else 12
def rightB (L : List Thing) (s use : List UInt8) (n : Int) : List UInt8 := if rightW n then keyFor L s use n else []
def rightL (L : List Thing) (s use : List UInt8) (n : Int) : List Thing := if rightW n then onceL (derT s use n) L else L
def nonceOk (a b : Int) : Bool := decide (0 ≤ a ∧ a ≤ 4294967295 ∧ 0 ≤ b ∧ b ≤ 1099511627776)
def nonceE (a b : Int) : Int := if nonceOk a b then 0 else 12
def nonceB (a b : Int) : List UInt8 := if nonceOk a b then be6 a ++ be6 b else []
theorem nonceOk_iff {a b : Int} : nonceOk a b = true ↔ 0 ≤ a ∧ a ≤ 4294967295 ∧ 0 ≤ b ∧ b ≤ 1099511627776 := by simp [nonceOk]
def wrapE (w e : Int) (k : List UInt8) : Int := if spotW w e then (if k.length = 32 then 0 else 11) else 12
def wrapT (L : List Thing) (s : List UInt8) (w e : Int) (k : List UInt8) : Thing := tBox (keyFor L s uMember w) (be6 0 ++ be6 e) uWrap k
def wrapB (L : List Thing) (s : List UInt8) (w e : Int) (k : List UInt8) : List UInt8 := if wrapE w e k = 0 then boxOf (((onceL (derT s uMember w) L).length : Int) + 1) 32 else []
def wrapL (L : List Thing) (s : List UInt8) (w e : Int) (k : List UInt8) : List Thing := if wrapE w e k = 0 then onceL (derT s uMember w) L ++ [wrapT L s w e k] else L
def unwrapO (L : List Thing) (s : List UInt8) (w e : Int) (b : List UInt8) : Option (List UInt8) :=
  match openOf (onceL (derT s uMember w) L) (keyFor L s uMember w) (be6 0 ++ be6 e) uWrap b with
  | some y => if y.length = 32 then some y else none
  | none => none
def unwrapE (L : List Thing) (s : List UInt8) (w e : Int) (b : List UInt8) : Int := if spotW w e then (match unwrapO L s w e b with | some _ => 0 | none => 20) else 12
def unwrapB (L : List Thing) (s : List UInt8) (w e : Int) (b : List UInt8) : List UInt8 := if spotW w e then (unwrapO L s w e b).getD [] else []
def unwrapL (L : List Thing) (s : List UInt8) (w e : Int) : List Thing := if spotW w e then onceL (derT s uMember w) L else L
theorem key_sz {L : List Thing} {s use : List UInt8} {n a b : Int} : szOk (keyFor L s use n) (be6 a ++ be6 b) = true := szOk_iff.2 ⟨rfl, rfl⟩
theorem unw_no {L : List Thing} {s b : List UInt8} {w e : Int} (h : ¬ openE (onceL (derT s uMember w) L) (keyFor L s uMember w) (be6 0 ++ be6 e) uWrap b = 0 ∨ ¬ ((openB (onceL (derT s uMember w) L) (keyFor L s uMember w) (be6 0 ++ be6 e) uWrap b).length : Int) = 32) : unwrapO L s w e b = none := by
  unfold unwrapO
  simp only [openE, openB, key_sz, if_true] at h
  cases ho : openOf (onceL (derT s uMember w) L) (keyFor L s uMember w) (be6 0 ++ be6 e) uWrap b with
  | none => rfl
  | some y =>
    rw [ho] at h
    show (if y.length = 32 then some y else none) = none
    rcases h with h | h
    · exact absurd rfl h
    · rw [if_neg (fun e => h (show ((y.length : Nat) : Int) = 32 by omega))]
theorem unw_yes {L : List Thing} {s b : List UInt8} {w e : Int} (h : openE (onceL (derT s uMember w) L) (keyFor L s uMember w) (be6 0 ++ be6 e) uWrap b = 0) (h2 : ((openB (onceL (derT s uMember w) L) (keyFor L s uMember w) (be6 0 ++ be6 e) uWrap b).length : Int) = 32) : unwrapO L s w e b = some (openB (onceL (derT s uMember w) L) (keyFor L s uMember w) (be6 0 ++ be6 e) uWrap b) := by
  unfold unwrapO
  simp only [openE, openB, key_sz, if_true] at h h2 ⊢
  cases ho : openOf (onceL (derT s uMember w) L) (keyFor L s uMember w) (be6 0 ++ be6 e) uWrap b with
  | none => simp [ho] at h
  | some y =>
    rw [ho] at h2
    have h3 : ((y.length : Nat) : Int) = 32 := h2
    show (if y.length = 32 then some y else none) = some y
    rw [if_pos (by omega)]
theorem rightL_len (L : List Thing) (s use : List UInt8) (n : Int) : (rightL L s use n).length ≤ L.length + 1 := by
  unfold rightL; split
  · exact onceL_len _ _
  · omega
theorem rightB_len (L : List Thing) (s use : List UInt8) (n : Int) : (rightB L s use n).length ≤ 32 := by
  unfold rightB; split
  · rw [keyFor, sign_len]; decide
  · simp
end Go.Proofs.Ytoajodjcmeijgaa
