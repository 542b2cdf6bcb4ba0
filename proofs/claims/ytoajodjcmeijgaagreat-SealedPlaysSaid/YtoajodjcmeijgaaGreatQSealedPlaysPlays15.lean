import Derived.Test.YtoajodjcmeijgaaGreatQSealedPlaysSealLaw
import Derived.Test.YtoajodjcmeijgaaGreatQSealedPlaysRefSuite
set_option linter.unusedVariables false
set_option linter.unusedSimpArgs false
namespace Go.Proofs.YtoajodjcmeijgaaGreat
open Go.RowKit Go.Ecal
def turnR (r : Record) (t : Int) : Record :=
  if t = 1 then ⟨r.coll + 1, r.epoch, r.writer, r.count, r.box⟩
  else if t = 2 then ⟨r.coll, (r.epoch + 1) % 17, r.writer, r.count, r.box⟩
  else if t = 3 then ⟨r.coll, r.epoch, r.writer % 16 + 1, r.count, r.box⟩
  else if t = 4 then ⟨r.coll, r.epoch, r.writer, r.count + 1, r.box⟩
  else r
def smallR (r : Record) : Prop := (0 ≤ r.coll ∧ r.coll ≤ 1099511627776) ∧ (0 ≤ r.epoch ∧ r.epoch ≤ 16) ∧ (0 ≤ r.writer ∧ r.writer ≤ 16) ∧ (0 ≤ r.count ∧ r.count ≤ 1099511627776) ∧ r.box.length ≤ 3000
def i64R (r : Record) : Prop := (-9223372036854775808 ≤ r.coll ∧ r.coll ≤ 9223372036854775807) ∧ (-9223372036854775808 ≤ r.epoch ∧ r.epoch ≤ 9223372036854775807) ∧ (-9223372036854775808 ≤ r.writer ∧ r.writer ≤ 9223372036854775807) ∧ (-9223372036854775808 ≤ r.count ∧ r.count ≤ 9223372036854775807) ∧ r.box.length ≤ 3000
theorem smallR.turn {r : Record} {t : Int} (h : smallR r) : i64R (turnR r t) := by
  obtain ⟨h1, h2, h3, h4, h5⟩ := h
  unfold turnR; repeat' split
  all_goals exact ⟨by first | omega | (dsimp only; omega), by first | omega | (dsimp only; omega), by first | omega | (dsimp only; omega), by first | omega | (dsimp only; omega), h5⟩
theorem smallR.seal (L : List Thing) (s k : List UInt8) (r : Record) (e : Entry) : smallR (sealRR L s k r e) := by
  by_cases h : sealRE k r e = 0
  · have ho := seals_ok h
    have hn := nums_iff.1 ho.nums
    rw [sealRR_ok ho]
    have hb := bpad_most (b := twoT e.encB (markB L s r.coll r.writer e.encB)) (by have := ho.enc; rw [twoT_len, markB_len]; omega)
    refine ⟨by dsimp only; omega, by dsimp only; omega, by dsimp only; omega, by dsimp only; omega, ?_⟩
    dsimp only; rw [box_len]; omega
  · rw [sealRR, if_neg h]; exact ⟨by decide, by decide, by decide, by decide, by decide⟩
theorem smallR.box {r : Record} {b : List UInt8} (h : r.nums = true) (hb : b.length ≤ 3000) : smallR ⟨r.coll, r.epoch, r.writer, r.count, b⟩ := by
  rw [nums_iff] at h; exact ⟨by dsimp only; omega, by dsimp only; omega, by dsimp only; omega, by dsimp only; omega, hb⟩
theorem small_all {l : List Record} {r : Record} (h : ∀ x ∈ l, smallR x) (hr : smallR r) : ∀ x ∈ l ++ [r], smallR x := by
  intro x hx; rcases List.mem_append.1 hx with h1 | h1
  · exact h x h1
  · simp only [List.mem_singleton] at h1; rw [h1]; exact hr
theorem Plain.mark {L : List Thing} {s b : List UInt8} {c w : Int} (h : Plain L) : Plain (markL L s c w b) := by
  rw [markL]; refine Plain.onceL ?_ (fun _ => ⟨rfl, rfl⟩)
  rw [rightL]; split
  · exact h.onceL (fun _ => ⟨rfl, rfl⟩)
  · exact h
theorem Plain.sealR {L : List Thing} {s k : List UInt8} {r : Record} {e : Entry} (h : Plain L) : Plain (sealRL L s k r e) := by
  rw [sealRL]; split
  · exact h.mark.snoc (fun h => by cases h)
  · exact h
theorem Plain.openR {L : List Thing} {s k : List UInt8} {r : Record} (h : Plain L) : Plain (openRL L s k r) := by
  rw [openRL]; split
  · split
    · split
      · rw [openYL]; split
        · exact h.mark
        · exact h
      · exact h
    · exact h
  · exact h
theorem Plain.keys (n : Nat) : Plain (List.replicate n tKey) := by
  intro u hu; rw [List.eq_of_mem_replicate hu]; intro h; cases h
theorem decV_wraps (b : List UInt8) : (decV b).wraps.length ≤ 16 := by
  rw [decV]; split
  · rename_i h
    rw [decOk, Bool.and_eq_true] at h
    exact right_wraps h.2
  · decide
theorem openRV_wraps (L : List Thing) (s k : List UInt8) (r : Record) : (openRV L s k r).wraps.length ≤ 1000000 := by
  rw [openRV]; split
  · split
    · exact Nat.le_trans (decV_wraps _) (by decide)
    · decide
  · decide
/-- Keys in an array: the first so many are there. -/
def KeysAt (I : Gh) (vs : List Value) (j : Nat) : Prop := vs.length = 4 ∧ ∀ i, i < 4 → ∃ u, vs[i]? = some u ∧ u.oneCell' = true ∧ RoB I u (if i < j then signOf 75 ((i : Int) + 1) else [])
theorem KeysAt.zero {I : Gh} : KeysAt I [.slice none 0 0, .slice none 0 0, .slice none 0 0, .slice none 0 0] 0 := by
  refine ⟨rfl, fun i hi => ⟨.slice none 0 0, ?_, rfl, Ro.nil⟩⟩
  have : i = 0 ∨ i = 1 ∨ i = 2 ∨ i = 3 := by omega
  rcases this with rfl | rfl | rfl | rfl <;> rfl
theorem KeysAt.up {I J : Gh} {vs : List Value} {j : Nat} (h : KeysAt I vs j) (k : I.le J) : KeysAt J vs j := ⟨h.1, fun i hi => let ⟨u, a, b, c⟩ := h.2 i hi; ⟨u, a, b, c.up k⟩⟩
theorem KeysAt.next {I : Gh} {vs : List Value} {j : Nat} {u : Value} (h : KeysAt I vs j) (hj : j < 4) (hu : u.oneCell' = true) (hr : RoB I u (signOf 75 ((j : Int) + 1))) {k : Nat} (hk : k = j) : KeysAt I (vs.set k u) (j + 1) := by
  subst hk
  refine ⟨by simpa using h.1, fun i hi => ?_⟩
  by_cases e : i = k
  · subst e; exact ⟨u, by rw [List.getElem?_set_self (by rw [h.1]; exact hj)], hu, by rw [if_pos (by omega)]; exact hr⟩
  · obtain ⟨q, a, b, c⟩ := h.2 i hi
    refine ⟨q, by rw [List.getElem?_set_ne (Ne.symm e)]; exact a, b, ?_⟩
    by_cases e2 : i < k
    · rw [if_pos e2] at c; rw [if_pos (by omega)]; exact c
    · rw [if_neg e2] at c; rw [if_neg (by omega)]; exact c
theorem KeysAt.get {I : Gh} {vs : List Value} {n : Int} (h : KeysAt I vs 4) (hn : 0 ≤ n ∧ n < 4) : ∃ u, vs[0 + n.toNat]? = some u ∧ u.oneCell' = true ∧ RoB I u (signOf 75 (n + 1)) := by
  obtain ⟨u, a, b, c⟩ := h.2 n.toNat (by omega)
  rw [if_pos (by omega), show (n.toNat : Int) = n by omega] at c
  exact ⟨u, by rw [Nat.zero_add]; exact a, b, c⟩
structure SOp where
  kind : Int
  ref : Int
  keyNo : Int
  turn : Int
  raw : List UInt8
  text : List UInt8
  record : Record
  entry : Entry
end Go.Proofs.YtoajodjcmeijgaaGreat
