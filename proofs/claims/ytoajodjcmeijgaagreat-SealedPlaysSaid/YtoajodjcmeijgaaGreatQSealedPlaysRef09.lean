import Derived.Test.YtoajodjcmeijgaaGreatQSealedPlaysRef15
set_option linter.unusedVariables false
set_option linter.unusedSimpArgs false
namespace Go.Proofs.YtoajodjcmeijgaaGreat
open Go.RowKit Go.Ecal
def c37 (e : Entry) : Bool := ((!(within e.writer 1 16)) || (decide (e.seq < 1))) || (decide (1099511627776 < e.seq))
def c41 (e : Entry) : Bool := (((((((decide (e.kind ≠ 1)) && (decide (e.kind ≠ 2))) && (decide (0 < (e.name.length : Int)))) || ((decide (e.kind ≠ 1)) && (decide (0 < (e.value.length : Int))))) || (((decide (e.kind ≠ 3)) && (decide (e.kind ≠ 4))) && (decide (e.who ≠ 0)))) || ((decide (e.kind ≠ 3)) && (decide (e.rights ≠ 0)))) || ((decide (e.kind ≠ 5)) && ((decide (e.epoch ≠ 0)) || (decide (0 < (e.wraps.length : Int))))))
theorem c37_no {e : Entry} (h : c37 e = true) : e.right = false := by
  rw [Entry.right, Entry.head]
  simp only [c37, Bool.or_eq_true, Bool.not_eq_true', decide_eq_true_eq] at h
  rcases h with (h | h) | h
  · simp [h]
  · have : within e.seq 1 1099511627776 = false := by simp [within]; omega
    simp [this]
  · have : within e.seq 1 1099511627776 = false := by simp [within]; omega
    simp [this]
theorem len0 {α : Type} {l : List α} : (0 < (l.length : Int)) ↔ l ≠ [] := by cases l <;> simp <;> omega
theorem c41_bare (e : Entry) : decide (e = e.bare) = !c41 e := by
  rw [Bool.eq_iff_iff, decide_eq_true_eq, entry_eq]
  simp only [Entry.bare, c41, len0, Bool.not_eq_true', Bool.or_eq_false_iff, Bool.and_eq_false_iff, decide_eq_false_iff_not, true_and, Decidable.not_not, ne_eq]
  constructor
  · rintro ⟨h1, h2, h3, h4, h5, h6⟩
    refine ⟨⟨⟨⟨?_, ?_⟩, ?_⟩, ?_⟩, ?_⟩
    · by_cases k : e.kind = 1 ∨ e.kind = 2
      · left; simpa using k
      · rw [if_neg k] at h1; exact .inr h1
    · by_cases k : e.kind = 1
      · exact .inl k
      · rw [if_neg k] at h2; exact .inr h2
    · by_cases k : e.kind = 3 ∨ e.kind = 4
      · left; simpa using k
      · rw [if_neg k] at h3; exact .inr h3
    · by_cases k : e.kind = 3
      · exact .inl k
      · rw [if_neg k] at h4; exact .inr h4
    · by_cases k : e.kind = 5
      · exact .inl k
      · rw [if_neg k] at h5 h6; exact .inr ⟨h5, h6⟩
  · rintro ⟨⟨⟨⟨h1, h2⟩, h3⟩, h4⟩, h5⟩
    refine ⟨?_, ?_, ?_, ?_, ?_, ?_⟩
    · split
      · rfl
      · rename_i k; rcases h1 with h1 | h1
        · exact absurd h1 k
        · exact h1
    · split
      · rfl
      · rename_i k; rcases h2 with h2 | h2
        · exact absurd h2 k
        · exact h2
    · split
      · rfl
      · rename_i k; rcases h3 with h3 | h3
        · exact absurd h3 k
        · exact h3
    · split
      · rfl
      · rename_i k; rcases h4 with h4 | h4
        · exact absurd h4 k
        · exact h4
    · split
      · rfl
      · rename_i k; rcases h5 with h5 | h5
        · exact absurd h5 k
        · exact h5.1
    · split
      · rfl
      · rename_i k; rcases h5 with h5 | h5
        · exact absurd h5 k
        · exact h5.2
theorem c41_no {e : Entry} (h : c41 e = true) : e.right = false := by rw [Entry.right, c41_bare, h]; simp
theorem c37_yes {e : Entry} (h : c37 e = false) (h2 : c41 e = false) : e.right = (within e.kind 1 5 && e.body) := by
  have h3 : within e.writer 1 16 = true ∧ within e.seq 1 1099511627776 = true := by
    simp only [c37, Bool.or_eq_false_iff, Bool.not_eq_false', decide_eq_false_iff_not] at h
    exact ⟨h.1.1, within_iff.2 (by omega)⟩
  rw [Entry.right, Entry.head, c41_bare, h2, h3.1, h3.2]; simp
/-- What is written of a right entry, piece by piece. -/
theorem enc_flat {e : Entry} (h : e.right = true) : e.encB = (e.parts.map partB).flatten := by rw [Entry.encB, if_pos h, putB_ok (right_put h)]
theorem num_ok {n : Int} (h : 0 ≤ n ∧ n ≤ 1099511627776) : partB (.int n) = be6 n := numB_ok h
theorem txt_ok {l : List UInt8} (h : l.length ≤ 4096) : partB (.bytes l) = be2 (l.length : Int) ++ l := if_pos h
theorem head_flat {e : Entry} (h : e.right = true) : be6 e.kind ++ (be6 e.writer ++ be6 e.seq) = (([Any.int e.kind, Any.int e.writer, Any.int e.seq]).map partB).flatten := by
  obtain ⟨h1, h2, h3⟩ := right_head h
  simp only [List.map_cons, List.map_nil, List.flatten_cons, List.flatten_nil, List.append_nil]
  rw [num_ok (by omega), num_ok (by omega), num_ok (by omega)]
theorem right_body {e : Entry} (h : e.right = true) : e.body = true := by simp only [Entry.right, Bool.and_eq_true] at h; exact h.2
theorem body_1 {e : Entry} (h : e.right = true) (k : e.kind = 1 ∨ e.kind = 2) : e.name.length ≤ 64 ∧ e.value.length ≤ 512 := by
  have := right_body h
  rw [Entry.body, if_pos k] at this; simp only [Bool.and_eq_true, within_iff, decide_eq_true_eq] at this; omega
theorem body_3 {e : Entry} (h : e.right = true) (k : e.kind = 3) : (1 ≤ e.who ∧ e.who ≤ 16) ∧ 1 ≤ e.rights ∧ e.rights ≤ 7 := by
  have := right_body h
  rw [Entry.body, if_neg (by omega), if_pos k] at this; simpa only [Bool.and_eq_true, within_iff] using this
theorem body_4 {e : Entry} (h : e.right = true) (k : e.kind = 4) : 1 ≤ e.who ∧ e.who ≤ 16 := by
  have := right_body h
  rw [Entry.body, if_neg (by omega), if_neg (by omega), if_pos k] at this; simpa only [within_iff] using this
theorem body_5 {e : Entry} (h : e.right = true) (k : e.kind = 5) : (1 ≤ e.epoch ∧ e.epoch ≤ 16) ∧ (∀ w ∈ e.wraps, (1 ≤ w.who ∧ w.who ≤ 16) ∧ w.box.length = 48) ∧ e.wraps.length ≤ 16 := by
  have := right_body h
  rw [Entry.body, if_neg (by omega), if_neg (by omega), if_neg (by omega)] at this
  simp only [Bool.and_eq_true, within_iff, wrapsOk, decide_eq_true_eq] at this
  exact ⟨this.1, wraps_each this.2.1, this.2.2⟩
def wrapsTo (e : Entry) (j : Nat) : List UInt8 := ((baseW e ++ wrapParts (e.wraps.take j)).map partB).flatten
theorem wto_zero {e : Entry} (h : e.right = true) (k : e.kind = 5) : (be6 e.kind ++ (be6 e.writer ++ be6 e.seq)) ++ (be6 e.epoch ++ be6 (e.wraps.length : Int)) = wrapsTo e 0 := by
  have b5 := body_5 h k
  rw [head_flat h, wrapsTo]
  simp only [List.take_zero, wrapParts, List.map_nil, List.flatten_nil, List.append_nil, List.map_append, List.map_cons, List.flatten_append, List.flatten_cons]
  rw [num_ok (n := e.epoch) (by omega), num_ok (n := (e.wraps.length : Int)) (by omega)]
theorem wto_step {e : Entry} {j : Nat} {w : WrapT} (h : e.right = true) (k : e.kind = 5) (hw : e.wraps[j]? = some w) : wrapsTo e j ++ (be6 w.who ++ (be2 (w.box.length : Int) ++ w.box)) = wrapsTo e (j + 1) := by
  have b5 := (body_5 h k).2.1 w (List.mem_of_getElem? hw)
  rw [wrapsTo, wrapsTo, ← wp_step (b := baseW e) hw]
  simp only [List.map_append, List.flatten_append, List.map_cons, List.map_nil, List.flatten_cons, List.flatten_nil, List.append_nil]
  rw [num_ok (n := w.who) (by omega), txt_ok (l := w.box) (by omega)]
theorem wto_end {e : Entry} {j : Nat} (h : e.right = true) (k : e.kind = 5) (hj : e.wraps.length ≤ j) : wrapsTo e j = e.encB := by
  rw [enc_flat h, wrapsTo, List.take_of_length_le hj, Entry.parts]; simp [k]
theorem wto_len (e : Entry) (j : Nat) : (wrapsTo e j).length ≤ 4098 * (5 + 2 * j) := by
  have h : ∀ l : List Any, ((l.map partB).flatten).length ≤ 4098 * l.length := fun l => by have := put_le (l := l) l.length; rwa [List.take_length] at this
  have h1 := h (baseW e ++ wrapParts (e.wraps.take j))
  rw [List.length_append, wp_len] at h1
  have h2 : (e.wraps.take j).length ≤ j := by simp; omega
  simp only [wrapsTo, baseW, List.length_append, List.length_cons, List.length_nil] at h1 ⊢; omega
theorem enc_1 {e : Entry} (h : e.right = true) (k : e.kind = 1) : (be6 e.kind ++ (be6 e.writer ++ be6 e.seq)) ++ ((be2 (e.name.length : Int) ++ e.name) ++ (be2 (e.value.length : Int) ++ e.value)) = e.encB := by
  have b := body_1 h (.inl k)
  rw [enc_flat h, head_flat h, Entry.parts, if_pos k]
  simp only [List.map_append, List.flatten_append, List.map_cons, List.map_nil, List.flatten_cons, List.flatten_nil, List.append_nil]
  rw [txt_ok (l := e.name) (by omega), txt_ok (l := e.value) (by omega)]
theorem enc_2 {e : Entry} (h : e.right = true) (k : e.kind = 2) : (be6 e.kind ++ (be6 e.writer ++ be6 e.seq)) ++ (be2 (e.name.length : Int) ++ e.name) = e.encB := by
  have b := body_1 h (.inr k)
  rw [enc_flat h, head_flat h, Entry.parts, if_neg (by omega), if_pos k]
  simp only [List.map_append, List.flatten_append, List.map_cons, List.map_nil, List.flatten_cons, List.flatten_nil, List.append_nil]
  rw [txt_ok (l := e.name) (by omega)]
theorem enc_3 {e : Entry} (h : e.right = true) (k : e.kind = 3) : (be6 e.kind ++ (be6 e.writer ++ be6 e.seq)) ++ (be6 e.who ++ be6 e.rights) = e.encB := by
  have b := body_3 h k
  rw [enc_flat h, head_flat h, Entry.parts, if_neg (by omega), if_neg (by omega), if_pos k]
  simp only [List.map_append, List.flatten_append, List.map_cons, List.map_nil, List.flatten_cons, List.flatten_nil, List.append_nil]
  rw [num_ok (n := e.who) (by omega), num_ok (n := e.rights) (by omega)]
theorem enc_4 {e : Entry} (h : e.right = true) (k : e.kind = 4) : (be6 e.kind ++ (be6 e.writer ++ be6 e.seq)) ++ be6 e.who = e.encB := by
  have b := body_4 h k
  rw [enc_flat h, head_flat h, Entry.parts, if_neg (by omega), if_neg (by omega), if_neg (by omega), if_pos k]
  simp only [List.map_append, List.flatten_append, List.map_cons, List.map_nil, List.flatten_cons, List.flatten_nil, List.append_nil]
  rw [num_ok (n := e.who) (by omega)]
theorem take_flat2 {l : List (List UInt8)} {j : Nat} {a : List UInt8} (h : l[j]? = some a) : (l.take j).flatten ++ a = (l.take (j + 1)).flatten := by
  rw [List.take_add_one, h]; simp
theorem flat_le2 {l : List (List UInt8)} {j : Nat} {a : List UInt8} (h : l[j]? = some a) : (l.take j).flatten.length + a.length ≤ l.flatten.length := by
  have e := take_flat2 h
  have h2 : (l.take (j + 1)).flatten.length ≤ l.flatten.length := by
    conv => rhs; rw [← List.take_append_drop (j + 1) l]
    rw [List.flatten_append, List.length_append]; omega
  rw [← e, List.length_append] at h2; exact h2
def smallE (e : Entry) : Bool := (e.wraps.all fun w => decide (w.box.length ≤ 100)) && (decide (e.name.length ≤ 100) && decide (e.value.length ≤ 600) && decide (e.wraps.length ≤ 20))
theorem small_iff {e : Entry} : smallE e = true ↔ (∀ w ∈ e.wraps, w.box.length ≤ 100) ∧ e.name.length ≤ 100 ∧ e.value.length ≤ 600 ∧ e.wraps.length ≤ 20 := by
  simp [smallE, and_assoc]
theorem small_next {l : List WrapT} {j : Nat} {a : WrapT} (h : ∀ w ∈ l.take j, w.box.length ≤ 100) (ha : l[j]? = some a) (hb : a.box.length ≤ 100) : ∀ w ∈ l.take (j + 1), w.box.length ≤ 100 := by
  intro w hw
  rw [List.take_add_one, ha] at hw
  rcases List.mem_append.1 hw with hw | hw
  · exact h w hw
  · simp at hw; rw [hw]; exact hb
theorem smallE_no {e : Entry} {j : Nat} {a : WrapT} (ha : e.wraps[j]? = some a) (hb : ¬ a.box.length ≤ 100) : smallE e = false := by
  rw [← Bool.not_eq_true]; intro h; exact hb ((small_iff.1 h).1 a (List.mem_of_getElem? ha))
theorem smallE_is {e : Entry} (h : ∀ w ∈ e.wraps, w.box.length ≤ 100) : ((decide ((e.name.length : Int) ≤ 100) && decide ((e.value.length : Int) ≤ 600)) && decide ((e.wraps.length : Int) ≤ 20)) = smallE e := by
  rw [Bool.eq_iff_iff, small_iff]; simp only [Bool.and_eq_true, decide_eq_true_eq]
  constructor
  · intro hh; exact ⟨h, by omega, by omega, by omega⟩
  · intro hh; omega
theorem take_snoc {α : Type} {l : List α} {j : Nat} {a : α} (h : l[j]? = some a) : l.take j ++ [a] = l.take (j + 1) := by rw [List.take_add_one, h]; rfl
end Go.Proofs.YtoajodjcmeijgaaGreat
