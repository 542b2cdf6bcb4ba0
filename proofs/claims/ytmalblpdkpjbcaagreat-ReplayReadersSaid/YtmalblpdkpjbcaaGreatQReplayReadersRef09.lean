import Derived.Test.YtmalblpdkpjbcaaGreatQReplayReadersRecLaw
set_option linter.unusedVariables false
set_option linter.unusedSimpArgs false
namespace Go.Proofs.YtmalblpdkpjbcaaGreat
open Go.RowKit Go.Ecal
theorem len0 {α : Type} {l : List α} : (0 < (l.length : Int)) ↔ l ≠ [] := by cases l <;> simp <;> omega
/-- What is written of a right entry, piece by piece. -/
theorem enc_flat {e : Entry} (h : e.right = true) : e.encB = (e.parts.map partB).flatten := by rw [Entry.encB, if_pos h, putB_ok (right_put h)]
theorem num_ok {n : Int} (h : 0 ≤ n ∧ n ≤ 1099511627776) : partB (.int n) = be6 n := numB_ok h
theorem txt_ok {l : List UInt8} (h : l.length ≤ 4096) : partB (.bytes l) = be2 (l.length : Int) ++ l := if_pos h
theorem head_flat {e : Entry} (h : e.right = true) : be6 e.kind ++ (be6 e.writer ++ be6 e.seq) = (([Any.int e.kind, Any.int e.writer, Any.int e.seq]).map partB).flatten := by
  obtain ⟨h1, h2, h3⟩ := right_head h
  simp only [List.map_cons, List.map_nil, List.flatten_cons, List.flatten_nil, List.append_nil]
  rw [num_ok (by omega), num_ok (by omega), num_ok (by omega)]
theorem right_body {e : Entry} (h : e.right = true) : e.body = true := by simp only [Entry.right, Bool.and_eq_true] at h; exact h.2
theorem body_1 {e : Entry} (h : e.right = true) (k : e.kind = 1 ∨ e.kind = 2) : e.name.length ≤ 64 ∧ e.value.length ≤ 512 := by
  have := right_body h
  rw [Entry.body, if_pos k] at this; simp only [Bool.and_eq_true, within_iff, decide_eq_true_eq] at this; omega
theorem body_3 {e : Entry} (h : e.right = true) (k : e.kind = 3) : (1 ≤ e.who ∧ e.who ≤ 16) ∧ 1 ≤ e.rights ∧ e.rights ≤ 7 := by
  have := right_body h
  rw [Entry.body, if_neg (by omega), if_pos k] at this; simpa only [Bool.and_eq_true, within_iff] using this
theorem body_4 {e : Entry} (h : e.right = true) (k : e.kind = 4) : 1 ≤ e.who ∧ e.who ≤ 16 := by
  have := right_body h
  rw [Entry.body, if_neg (by omega), if_neg (by omega), if_pos k] at this; simpa only [within_iff] using this
theorem body_5 {e : Entry} (h : e.right = true) (k : e.kind = 5) : (1 ≤ e.epoch ∧ e.epoch ≤ 16) ∧ (∀ w ∈ e.wraps, (1 ≤ w.who ∧ w.who ≤ 16) ∧ w.box.length = 48) ∧ e.wraps.length ≤ 16 := by
  have := right_body h
  rw [Entry.body, if_neg (by omega), if_neg (by omega), if_neg (by omega)] at this
  simp only [Bool.and_eq_true, within_iff, wrapsOk, decide_eq_true_eq] at this
  exact ⟨this.1, wraps_each this.2.1, this.2.2⟩
theorem enc_1 {e : Entry} (h : e.right = true) (k : e.kind = 1) : (be6 e.kind ++ (be6 e.writer ++ be6 e.seq)) ++ ((be2 (e.name.length : Int) ++ e.name) ++ (be2 (e.value.length : Int) ++ e.value)) = e.encB := by
  have b := body_1 h (.inl k)
  rw [enc_flat h, head_flat h, Entry.parts, if_pos k]
  simp only [List.map_append, List.flatten_append, List.map_cons, List.map_nil, List.flatten_cons, List.flatten_nil, List.append_nil]
  rw [txt_ok (l := e.name) (by omega), txt_ok (l := e.value) (by omega)]
theorem enc_2 {e : Entry} (h : e.right = true) (k : e.kind = 2) : (be6 e.kind ++ (be6 e.writer ++ be6 e.seq)) ++ (be2 (e.name.length : Int) ++ e.name) = e.encB := by
  have b := body_1 h (.inr k)
  rw [enc_flat h, head_flat h, Entry.parts, if_neg (by omega), if_pos k]
  simp only [List.map_append, List.flatten_append, List.map_cons, List.map_nil, List.flatten_cons, List.flatten_nil, List.append_nil]
  rw [txt_ok (l := e.name) (by omega)]
theorem enc_3 {e : Entry} (h : e.right = true) (k : e.kind = 3) : (be6 e.kind ++ (be6 e.writer ++ be6 e.seq)) ++ (be6 e.who ++ be6 e.rights) = e.encB := by
  have b := body_3 h k
  rw [enc_flat h, head_flat h, Entry.parts, if_neg (by omega), if_neg (by omega), if_pos k]
  simp only [List.map_append, List.flatten_append, List.map_cons, List.map_nil, List.flatten_cons, List.flatten_nil, List.append_nil]
  rw [num_ok (n := e.who) (by omega), num_ok (n := e.rights) (by omega)]
theorem enc_4 {e : Entry} (h : e.right = true) (k : e.kind = 4) : (be6 e.kind ++ (be6 e.writer ++ be6 e.seq)) ++ be6 e.who = e.encB := by
  have b := body_4 h k
  rw [enc_flat h, head_flat h, Entry.parts, if_neg (by omega), if_neg (by omega), if_neg (by omega), if_pos k]
  simp only [List.map_append, List.flatten_append, List.map_cons, List.map_nil, List.flatten_cons, List.flatten_nil, List.append_nil]
  rw [num_ok (n := e.who) (by omega)]
end Go.Proofs.YtmalblpdkpjbcaaGreat
