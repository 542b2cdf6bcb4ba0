import Derived.Test.YtanpinfhlbbjkaaGreatQClientSeesReader
import Derived.Test.YtanpinfhlbbjkaaGreatQClientSeesSuite
set_option linter.unusedVariables false
set_option linter.unusedSimpArgs false
namespace Go.Proofs.YtanpinfhlbbjkaaGreat
open Go.RowKit Go.Ecal
theorem bof_nat (x : Int) : ((bof x).toNat : Int) = x % 256 := by
  have := congrArg (fun v => match v with | Value.int _ n => n | _ => 0) (bof_val x)
  simpa [byt] using this.symm
theorem num8 (a b c d e f g h : UInt8) : (numOf [a, b, c, d, e, f, g, h] : Int) = (((((((a.toNat : Int) * 256 + b.toNat) * 256 + c.toNat) * 256 + d.toNat) * 256 + e.toNat) * 256 + f.toNat) * 256 + g.toNat) * 256 + h.toNat := by
  show (((((((((0 * 256 + a.toNat) * 256 + b.toNat) * 256 + c.toNat) * 256 + d.toNat) * 256 + e.toNat) * 256 + f.toNat) * 256 + g.toNat) * 256 + h.toNat : Nat) : Int) = _
  omega
theorem numOf_be8 {n : Int} (h : 0 ≤ n ∧ n ≤ 9223372036854775807) : (numOf (be8 n) : Int) = n := by
  rw [be8, num8, bof_nat, bof_nat, bof_nat, bof_nat, bof_nat, bof_nat, bof_nat, bof_nat]
  omega
theorem sign_len (c : UInt8) (n : Int) : (signOf c n).length = 32 := rfl
theorem box_len {n : Int} {m : Nat} : (boxOf n m).length = m + 16 := by simp [boxOf, be8]
theorem box_tail {n : Int} {m : Nat} : (boxOf n m).drop ((boxOf n m).length - 8) = be8 n := by
  rw [box_len, boxOf, show m + 16 - 8 = (66 :: List.replicate (m + 7) (0 : UInt8)).length by simp, List.drop_left]

/-- t has the number n in L. -/
def At (L : List Thing) (n : Int) (t : Thing) : Prop := 1 ≤ n ∧ L[(n - 1).toNat]? = some t
theorem At.app {L : List Thing} {n : Int} {t : Thing} (h : At L n t) (M : List Thing) : At (L ++ M) n t := by
  refine ⟨h.1, ?_⟩
  have := (List.getElem?_eq_some_iff.1 h.2).1
  rw [List.getElem?_append_left this]; exact h.2
theorem onceL_app (t : Thing) (L : List Thing) : ∃ M, onceL t L = L ++ M := by
  cases h : idx t L with
  | none => exact ⟨[t], by simp [onceL, h]⟩
  | some i => exact ⟨[], by simp [onceL, h]⟩
theorem At.once {L : List Thing} {n : Int} {t : Thing} (h : At L n t) (u : Thing) : At (onceL u L) n t := by
  obtain ⟨M, e⟩ := onceL_app u L; rw [e]; exact h.app M
theorem once_at (t : Thing) (L : List Thing) : At (onceL t L) (onceN t L : Int) t := by
  cases h : idx t L with
  | none => simp [At, onceL, onceN, h]; omega
  | some i => have := (idx_some h).1; simp [At, onceL, onceN, h, this]; omega
theorem last_at (t : Thing) (L : List Thing) : At (L ++ [t]) ((L.length : Int) + 1) t := by simp [At]; omega
theorem At.inj {L : List Thing} {n : Int} {t u : Thing} (h : At L n t) (k : At L n u) : t = u := by have := h.2.symm.trans k.2; simpa using this
theorem once_idx (t : Thing) (L : List Thing) : idx t (onceL t L) = some (onceN t L - 1) := by
  cases h : idx t L with
  | none => simp [onceL, onceN, h, idx_last h]
  | some i => simp [onceL, onceN, h]
/-- What has a number already keeps it. -/
theorem onceN_of {t : Thing} {L : List Thing} {i : Nat} (h : idx t L = some i) : onceN t L = i + 1 := by simp [onceN, h]
theorem idx_more {t : Thing} {L : List Thing} {i : Nat} (h : idx t L = some i) : ∀ M, idx t (L ++ M) = some i := by
  intro M; unfold idx at *; rw [List.findIdx?_append, h]; rfl
theorem idx_once {t u : Thing} {L : List Thing} {i : Nat} (h : idx t L = some i) : idx t (onceL u L) = some i := by
  obtain ⟨M, e⟩ := onceL_app u L; rw [e]; exact idx_more h M
theorem onceN_pos (t : Thing) (L : List Thing) : 1 ≤ onceN t L := (onceN_le t L).1
/-- Of two that are summed one after the other (others may come in between). -/
theorem two_once (t u : Thing) (L M : List Thing) : (onceN t L : Int) = onceN u (onceL t L ++ M) ↔ t = u := by
  constructor
  · intro h
    have h1 := ((once_at t L).app M).once u
    have h2 := once_at u (onceL t L ++ M)
    rw [← h] at h2
    exact h1.inj h2
  · rintro rfl
    rw [onceN_of (idx_more (once_idx t L) M)]
    have := onceN_pos t L; omega
theorem szOk_iff {k n : List UInt8} : szOk k n = true ↔ k.length = 32 ∧ n.length = 12 := by simp [szOk]; omega
theorem num_box {m : Int} {p : Nat} (h : 0 ≤ m ∧ m ≤ 9223372036854775807) : (numOf ((boxOf m p).drop ((boxOf m p).length - 8)) : Int) = m := by rw [box_tail, numOf_be8 h]
/-- What was boxed is opened. -/
theorem open_box {L : List Thing} {m : Int} {k n o x : List UInt8} (h : At L m (tBox k n o x)) (hm : m ≤ 9223372036854775807) : openOf L k n o (boxOf m x.length) = some x := by
  have h1 := h.1
  have e : numOf ((boxOf m x.length).drop ((boxOf m x.length).length - 8)) = m.toNat := by have := num_box (p := x.length) (m := m) ⟨by omega, hm⟩; omega
  unfold openOf
  rw [if_neg (by rw [box_len]; omega), e, if_neg (by omega), show m.toNat - 1 = (m - 1).toNat by omega, h.2]
  have : ((m.toNat : Nat) : Int) = m := by omega
  simp [this]
/-- What is opened is boxed. -/
theorem open_is {L : List Thing} {k n o b x : List UInt8} (h : openOf L k n o b = some x) : ∃ m : Int, At L m (tBox k n o x) ∧ b = boxOf m x.length := by
  unfold openOf at h
  split at h
  · cases h
  split at h
  · cases h
  split at h
  · cases h
  · rename_i h1 h2 t ht
    split at h
    · rename_i hc
      obtain ⟨hc1, hc2⟩ := hc
      simp only [Option.some.injEq] at h
      subst h
      refine ⟨numOf (b.drop (b.length - 8)), ⟨by omega, ?_⟩, hc2.symm⟩
      rw [← hc1, show (((numOf (b.drop (b.length - 8)) : Nat) : Int) - 1).toNat = numOf (b.drop (b.length - 8)) - 1 by omega]
      exact ht
    · cases h
theorem At.last {L : List Thing} {t : Thing} : At (L ++ [t]) ((L.length : Int) + 1) t := last_at t L
/-- The key that was drawn last, behind j of them. -/
def keyOf (j : Nat) : List UInt8 := if j = 0 then [] else signOf 75 (j : Int)
theorem small_snoc {L : List Thing} {t : Thing} (h : ∀ t ∈ L, t.text.length ≤ 800000000) (ht : t.text.length ≤ 800000000) : ∀ u ∈ L ++ [t], u.text.length ≤ 800000000 := by
  intro u hu; rcases List.mem_append.1 hu with h1 | h1
  · exact h u h1
  · simp only [List.mem_singleton] at h1; rw [h1]; exact ht
theorem onceL_of {t : Thing} {L : List Thing} {i : Nat} (h : idx t L = some i) : onceL t L = L := by simp [onceL, h]
/-- Of each of the first j: its sum and its code, in L. -/
def Found (k : List UInt8) (l : List (List UInt8)) (L : List Thing) (ss cs : List (List UInt8)) (j : Nat) : Prop :=
  ∀ i b, i < j → l[i]? = some b → ∃ m m2 : Nat, b.length ≤ 100 ∧ idx (tSum b) L = some m ∧ ss[i]? = some (signOf 72 ((m : Int) + 1)) ∧ idx (tCode k b) L = some m2 ∧ cs[i]? = some (signOf 77 ((m2 : Int) + 1))
theorem Found.none {k : List UInt8} {l : List (List UInt8)} {L : List Thing} {ss cs : List (List UInt8)} : Found k l L ss cs 0 := fun i b h => absurd h (Nat.not_lt_zero _)
theorem idx_onceN {t : Thing} {L : List Thing} : ∃ m : Nat, idx t (onceL t L) = some m ∧ (onceN t L : Int) = (m : Int) + 1 := by
  refine ⟨onceN t L - 1, once_idx t L, ?_⟩
  have := onceN_pos t L; omega
theorem Found.next {k : List UInt8} {l : List (List UInt8)} {L : List Thing} {ss cs : List (List UInt8)} {j : Nat} {b : List UInt8} (h : Found k l L ss cs j) (hb : l[j]? = some b) (hs : ss.length = j) (hc : cs.length = j) (hbl : b.length ≤ 100) :
    Found k l (onceL (tCode k b) (onceL (tSum b) L) ++ [tKey]) (ss ++ [signOf 72 (onceN (tSum b) L : Int)]) (cs ++ [signOf 77 (onceN (tCode k b) (onceL (tSum b) L) : Int)]) (j + 1) := by
  intro i c hi hc'
  by_cases hij : i < j
  · obtain ⟨m, m2, h0, h1, h2, h3, h4⟩ := h i c hij hc'
    exact ⟨m, m2, h0, idx_more (idx_once (idx_once h1)) _, by rw [List.getElem?_append_left (by omega)]; exact h2, idx_more (idx_once (idx_once h3)) _, by rw [List.getElem?_append_left (by omega)]; exact h4⟩
  · have : i = j := by omega
    subst this
    rw [hb] at hc'; cases hc'
    obtain ⟨m, h1, h2⟩ := idx_onceN (t := tSum b) (L := L)
    obtain ⟨m2, h3, h4⟩ := idx_onceN (t := tCode k b) (L := onceL (tSum b) L)
    exact ⟨m, m2, hbl, idx_more (idx_once h1) _, by rw [List.getElem?_append_right (by omega), hs]; simp [h2], idx_more h3 _, by rw [List.getElem?_append_right (by omega), hc]; simp [h4]⟩
theorem small_once {L : List Thing} {t : Thing} (h : ∀ t ∈ L, t.text.length ≤ 800000000) (ht : t.text.length ≤ 800000000) : ∀ u ∈ onceL t L, u.text.length ≤ 800000000 := by
  cases hi : idx t L with
  | none => simp only [onceL, hi]; exact small_snoc h ht
  | some i => simpa [onceL, hi] using h
/-- Texts of so many bytes at most. -/
def Texts (n : Nat) (L : List Thing) : Prop := ∀ t ∈ L, t.text.length ≤ n
theorem Texts.nil {n : Nat} : Texts n [] := fun t h => by cases h
theorem Texts.snoc {n : Nat} {L : List Thing} {t : Thing} (h : Texts n L) (ht : t.text.length ≤ n) : Texts n (L ++ [t]) := by
  intro u hu; rcases List.mem_append.1 hu with h1 | h1
  · exact h u h1
  · simp only [List.mem_singleton] at h1; rw [h1]; exact ht
theorem Texts.once {n : Nat} {L : List Thing} {t : Thing} (h : Texts n L) (ht : t.text.length ≤ n) : Texts n (onceL t L) := by
  cases hi : idx t L with
  | none => simp only [onceL, hi]; exact h.snoc ht
  | some i => simpa [onceL, hi] using h
theorem Texts.sealL {m : Nat} {L : List Thing} {k n o x : List UInt8} (h : Texts m L) (ht : x.length ≤ m) : Texts m (sealL L k n o x) := by
  unfold Go.Proofs.YtanpinfhlbbjkaaGreat.sealL; split
  · exact h.snoc ht
  · exact h
end Go.Proofs.YtanpinfhlbbjkaaGreat

namespace Go.Proofs.YtanpinfhlbbjkaaGreat
open Go.RowKit Go.Ecal
abbrev uMember : List UInt8 := [109, 101, 109, 98, 101, 114]
abbrev uWriter : List UInt8 := [119, 114, 105, 116, 101, 114]
abbrev uEpoch : List UInt8 := [101, 112, 111, 99, 104]
abbrev uWrap : List UInt8 := [119, 114, 97, 112]
/-- What a key for a use, of a number, is the code of. -/
abbrev derT (s use : List UInt8) (n : Int) : Thing := tCode s (use ++ be6 n)
def keyFor (L : List Thing) (s use : List UInt8) (n : Int) : List UInt8 := signOf 77 (onceN (derT s use n) L : Int)
def rightW (n : Int) : Bool := decide (1 ≤ n) && decide (n ≤ 16)
def spotW (w e : Int) : Bool := rightW w && (decide (1 ≤ e) && decide (e ≤ 16))
theorem rightW_iff {n : Int} : rightW n = true ↔ 1 ≤ n ∧ n ≤ 16 := by simp [rightW]
theorem spotW_iff {w e : Int} : spotW w e = true ↔ (1 ≤ w ∧ w ≤ 16) ∧ 1 ≤ e ∧ e ≤ 16 := by simp [spotW, rightW]
def rightE (n : Int) : Int := if rightW n then 0 else 12
def rightB (L : List Thing) (s use : List UInt8) (n : Int) : List UInt8 := if rightW n then keyFor L s use n else []
def rightL (L : List Thing) (s use : List UInt8) (n : Int) : List Thing := if rightW n then onceL (derT s use n) L else L
def nonceOk (a b : Int) : Bool := decide (0 ≤ a ∧ a ≤ 4294967295 ∧ 0 ≤ b ∧ b ≤ 1099511627776)
def nonceE (a b : Int) : Int := if nonceOk a b then 0 else 12
def nonceB (a b : Int) : List UInt8 := if nonceOk a b then be6 a ++ be6 b else []
theorem nonceOk_iff {a b : Int} : nonceOk a b = true ↔ 0 ≤ a ∧ a ≤ 4294967295 ∧ 0 ≤ b ∧ b ≤ 1099511627776 := by simp [nonceOk]
def unwrapO (L : List Thing) (s : List UInt8) (w e : Int) (b : List UInt8) : Option (List UInt8) :=
  match openOf (onceL (derT s uMember w) L) (keyFor L s uMember w) (be6 0 ++ be6 e) uWrap b with
  | some y => if y.length = 32 then some y else none
  | none => none
def unwrapE (L : List Thing) (s : List UInt8) (w e : Int) (b : List UInt8) : Int := if spotW w e then (match unwrapO L s w e b with | some _ => 0 | none => 20) else 12
def unwrapB (L : List Thing) (s : List UInt8) (w e : Int) (b : List UInt8) : List UInt8 := if spotW w e then (unwrapO L s w e b).getD [] else []
def unwrapL (L : List Thing) (s : List UInt8) (w e : Int) : List Thing := if spotW w e then onceL (derT s uMember w) L else L
theorem key_sz {L : List Thing} {s use : List UInt8} {n a b : Int} : szOk (keyFor L s use n) (be6 a ++ be6 b) = true := szOk_iff.2 ⟨rfl, rfl⟩
theorem unw_no {L : List Thing} {s b : List UInt8} {w e : Int} (h : ¬ openE (onceL (derT s uMember w) L) (keyFor L s uMember w) (be6 0 ++ be6 e) uWrap b = 0 ∨ ¬ ((openB (onceL (derT s uMember w) L) (keyFor L s uMember w) (be6 0 ++ be6 e) uWrap b).length : Int) = 32) : unwrapO L s w e b = none := by
  unfold unwrapO
  simp only [openE, openB, key_sz, if_true] at h
  cases ho : openOf (onceL (derT s uMember w) L) (keyFor L s uMember w) (be6 0 ++ be6 e) uWrap b with
  | none => rfl
  | some y =>
    rw [ho] at h
    show (if y.length = 32 then some y else none) = none
    rcases h with h | h
    · exact absurd rfl h
    · rw [if_neg (fun e => h (show ((y.length : Nat) : Int) = 32 by omega))]
theorem unw_yes {L : List Thing} {s b : List UInt8} {w e : Int} (h : openE (onceL (derT s uMember w) L) (keyFor L s uMember w) (be6 0 ++ be6 e) uWrap b = 0) (h2 : ((openB (onceL (derT s uMember w) L) (keyFor L s uMember w) (be6 0 ++ be6 e) uWrap b).length : Int) = 32) : unwrapO L s w e b = some (openB (onceL (derT s uMember w) L) (keyFor L s uMember w) (be6 0 ++ be6 e) uWrap b) := by
  unfold unwrapO
  simp only [openE, openB, key_sz, if_true] at h h2 ⊢
  cases ho : openOf (onceL (derT s uMember w) L) (keyFor L s uMember w) (be6 0 ++ be6 e) uWrap b with
  | none => simp [ho] at h
  | some y =>
    rw [ho] at h2
    have h3 : ((y.length : Nat) : Int) = 32 := h2
    show (if y.length = 32 then some y else none) = some y
    rw [if_pos (by omega)]
theorem rightL_len (L : List Thing) (s use : List UInt8) (n : Int) : (rightL L s use n).length ≤ L.length + 1 := by
  unfold rightL; split
  · exact onceL_len _ _
  · omega
theorem rightB_len (L : List Thing) (s use : List UInt8) (n : Int) : (rightB L s use n).length ≤ 32 := by
  unfold rightB; split
  · rw [keyFor, sign_len]; decide
  · simp
end Go.Proofs.YtanpinfhlbbjkaaGreat
