/- Keys: of members, of writers, of epochs. -/
import Derived.Test.YtdnlkkgbgjibgaaCode
import Derived.Test.YtdnlkkgbgjibgaaSigns
set_option linter.unusedVariables false
set_option linter.unusedSimpArgs false
namespace Go.Proofs.Ytdnlkkgbgjibgaa
open Go.RowKit Go.Ecal
abbrev uMember : List UInt8 := [109, 101, 109, 98, 101, 114]
abbrev uWriter : List UInt8 := [119, 114, 105, 116, 101, 114]
abbrev uEpoch : List UInt8 := [101, 112, 111, 99, 104]
abbrev uWrap : List UInt8 := [119, 114, 97, 112]
/-- What a key for a use, of a number, is the code of. -/
abbrev derT (s use : List UInt8) (n : Int) : Thing := tCode s (use ++ be6 n)
def keyFor (L : List Thing) (s use : List UInt8) (n : Int) : List UInt8 := signOf 77 (onceN (derT s use n) L : Int)
def rightW (n : Int) : Bool := decide (1 ≤ n) && decide (n ≤ 16)
def spotW (w e : Int) : Bool := rightW w && (decide (1 ≤ e) && decide (e ≤ 16))
theorem rightW_iff {n : Int} : rightW n = true ↔ 1 ≤ n ∧ n ≤ 16 := by simp [rightW]
theorem spotW_iff {w e : Int} : spotW w e = true ↔ (1 ≤ w ∧ w ≤ 16) ∧ 1 ≤ e ∧ e ≤ 16 := by simp [spotW, rightW]
def rightE (n : Int) : Int := if rightW n then 0 else 12
def rightB (L : List Thing) (s use : List UInt8) (n : Int) : List UInt8 := if rightW n then keyFor L s use n else []
def rightL (L : List Thing) (s use : List UInt8) (n : Int) : List Thing := if rightW n then onceL (derT s use n) L else L
def nonceOk (a b : Int) : Bool := decide (0 ≤ a ∧ a ≤ 4294967295 ∧ 0 ≤ b ∧ b ≤ 1099511627776)
def nonceE (a b : Int) : Int := if nonceOk a b then 0 else 12
def nonceB (a b : Int) : List UInt8 := if nonceOk a b then be6 a ++ be6 b else []
theorem nonceOk_iff {a b : Int} : nonceOk a b = true ↔ 0 ≤ a ∧ a ≤ 4294967295 ∧ 0 ≤ b ∧ b ≤ 1099511627776 := by simp [nonceOk]
def wrapE (w e : Int) (k : List UInt8) : Int := if spotW w e then (if k.length = 32 then 0 else 11) else 12
def wrapT (L : List Thing) (s : List UInt8) (w e : Int) (k : List UInt8) : Thing := tBox (keyFor L s uMember w) (be6 0 ++ be6 e) uWrap k
def wrapB (L : List Thing) (s : List UInt8) (w e : Int) (k : List UInt8) : List UInt8 := if wrapE w e k = 0 then boxOf (((onceL (derT s uMember w) L).length : Int) + 1) 32 else []
def wrapL (L : List Thing) (s : List UInt8) (w e : Int) (k : List UInt8) : List Thing := if wrapE w e k = 0 then onceL (derT s uMember w) L ++ [wrapT L s w e k] else L
def unwrapO (L : List Thing) (s : List UInt8) (w e : Int) (b : List UInt8) : Option (List UInt8) :=
  match openOf (onceL (derT s uMember w) L) (keyFor L s uMember w) (be6 0 ++ be6 e) uWrap b with
  | some y => if y.length = 32 then some y else none
  | none => none
def unwrapE (L : List Thing) (s : List UInt8) (w e : Int) (b : List UInt8) : Int := if spotW w e then (match unwrapO L s w e b with | some _ => 0 | none => 20) else 12
def unwrapB (L : List Thing) (s : List UInt8) (w e : Int) (b : List UInt8) : List UInt8 := if spotW w e then (unwrapO L s w e b).getD [] else []
def unwrapL (L : List Thing) (s : List UInt8) (w e : Int) : List Thing := if spotW w e then onceL (derT s uMember w) L else L
theorem key_sz {L : List Thing} {s use : List UInt8} {n a b : Int} : szOk (keyFor L s use n) (be6 a ++ be6 b) = true := szOk_iff.2 ⟨rfl, rfl⟩
theorem unw_no {L : List Thing} {s b : List UInt8} {w e : Int} (h : ¬ openE (onceL (derT s uMember w) L) (keyFor L s uMember w) (be6 0 ++ be6 e) uWrap b = 0 ∨ ¬ ((openB (onceL (derT s uMember w) L) (keyFor L s uMember w) (be6 0 ++ be6 e) uWrap b).length : Int) = 32) : unwrapO L s w e b = none := by
  unfold unwrapO
  simp only [openE, openB, key_sz, if_true] at h
  cases ho : openOf (onceL (derT s uMember w) L) (keyFor L s uMember w) (be6 0 ++ be6 e) uWrap b with
  | none => rfl
  | some y =>
    rw [ho] at h
    show (if y.length = 32 then some y else none) = none
    rcases h with h | h
    · exact absurd rfl h
    · rw [if_neg (fun e => h (show ((y.length : Nat) : Int) = 32 by omega))]
theorem unw_yes {L : List Thing} {s b : List UInt8} {w e : Int} (h : openE (onceL (derT s uMember w) L) (keyFor L s uMember w) (be6 0 ++ be6 e) uWrap b = 0) (h2 : ((openB (onceL (derT s uMember w) L) (keyFor L s uMember w) (be6 0 ++ be6 e) uWrap b).length : Int) = 32) : unwrapO L s w e b = some (openB (onceL (derT s uMember w) L) (keyFor L s uMember w) (be6 0 ++ be6 e) uWrap b) := by
  unfold unwrapO
  simp only [openE, openB, key_sz, if_true] at h h2 ⊢
  cases ho : openOf (onceL (derT s uMember w) L) (keyFor L s uMember w) (be6 0 ++ be6 e) uWrap b with
  | none => simp [ho] at h
  | some y =>
    rw [ho] at h2
    have h3 : ((y.length : Nat) : Int) = 32 := h2
    show (if y.length = 32 then some y else none) = some y
    rw [if_pos (by omega)]
/-! ### A ring -/
def RingP (p : Value) (ks : List (List UInt8)) : HP := .ex fun b => .ex fun vs => Sep [.prop (p = ptr b ∧ ks.length = 17), .fact ⟨fun I => All2 (cellN I) vs ks, fun k h => h.imp fun _ _ => cellN.up k⟩, Blk b 69 vs]
theorem RingP.opn {w : World} {I : Gh} {R : List HP} {p : Value} {ks : List (List UInt8)} (S : Sat w I (RingP p ks :: R)) : ∃ b vs, p = ptr b ∧ ks.length = 17 ∧ All2 (cellN I) vs ks ∧ Sat w I (Blk b 69 vs :: R) := by
  obtain ⟨b, S⟩ := S.unex; obtain ⟨vs, S⟩ := S.unex
  obtain ⟨⟨h1, h2⟩, S⟩ := S.split.unprop
  obtain ⟨h3, S⟩ := S.unfact
  exact ⟨b, vs, h1, h2, h3, S⟩
theorem RingP.cls {w : World} {I : Gh} {R : List HP} {b : Nat} {vs : List Value} {ks : List (List UInt8)} (hk : ks.length = 17) (hA : All2 (cellN I) vs ks) (S : Sat w I (Blk b 69 vs :: R)) : Sat w I (RingP (ptr b) ks :: R) :=
  Sat.toex b (Sat.toex vs (Sat.join [_, _, _] ((S.tofact hA).toprop ⟨rfl, hk⟩)))
def keyAt (ks : List (List UInt8)) (e : Int) : List UInt8 := if 0 ≤ e ∧ e ≤ 16 then ks.getD e.toNat [] else []
def learnE (ks : List (List UInt8)) (e : Int) (k : List UInt8) : Int := if 1 ≤ e ∧ e ≤ 16 then (if k.length = 32 then (if (keyAt ks e).isEmpty then 0 else 31) else 11) else 12
def learnK (ks : List (List UInt8)) (e : Int) (k : List UInt8) : List (List UInt8) := if learnE ks e k = 0 then ks.set e.toNat k else ks
def ring0 (k : List UInt8) : List (List UInt8) := k :: List.replicate 16 []
/-- n is the greatest with a key. -/
def Newest (ks : List (List UInt8)) (n : Int) : Prop := 0 ≤ n ∧ n ≤ 16 ∧ keyAt ks n ≠ [] ∧ ∀ m, n < m → m ≤ 16 → keyAt ks m = []
theorem keyAt_get {ks : List (List UInt8)} {e : Int} (hk : ks.length = 17) (h : 0 ≤ e ∧ e ≤ 16) : ks[e.toNat]? = some (keyAt ks e) := by
  rw [keyAt, if_pos h, List.getElem?_eq_getElem (by omega)]; simp [List.getD, List.getElem?_eq_getElem (show e.toNat < ks.length by omega)]
theorem learnK_len {ks : List (List UInt8)} {e : Int} {k : List UInt8} : (learnK ks e k).length = ks.length := by unfold learnK; split <;> simp
theorem keyAt_set {ks : List (List UInt8)} {e m : Int} {k : List UInt8} (hk : ks.length = 17) (he : 0 ≤ e ∧ e ≤ 16) : keyAt (ks.set e.toNat k) m = if m = e then k else keyAt ks m := by
  by_cases hm : 0 ≤ m ∧ m ≤ 16
  · by_cases h : m = e
    · subst h
      rw [keyAt, if_pos hm, if_pos rfl]
      simp [List.getD, List.getElem?_set_self (show m.toNat < ks.length by omega)]
    · rw [keyAt, if_pos hm, if_neg h, keyAt, if_pos hm]
      simp only [List.getD]
      rw [List.getElem?_set_ne (by omega)]
  · have : m ≠ e := by omega
    rw [keyAt, if_neg hm, if_neg this, keyAt, if_neg hm]
end Go.Proofs.Ytdnlkkgbgjibgaa
