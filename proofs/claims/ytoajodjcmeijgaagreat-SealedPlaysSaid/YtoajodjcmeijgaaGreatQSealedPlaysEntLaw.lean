import Derived.Test.YtoajodjcmeijgaaGreatQSealedPlaysRef09
set_option linter.unusedVariables false
set_option linter.unusedSimpArgs false
namespace Go.Proofs.YtoajodjcmeijgaaGreat
open Go.RowKit Go.Ecal
def wb (l : List WrapT) : List UInt8 := (l.map fun w => be6 w.who ++ (be2 (w.box.length : Int) ++ w.box)).flatten
theorem wb_to {e : Entry} (h : e.right = true) (k : e.kind = 5) : ((wrapParts e.wraps).map partB).flatten = wb e.wraps := by
  have b5 := (body_5 h k).2.1
  rw [wrapParts, wb]
  generalize e.wraps = l at b5
  induction l with
  | nil => rfl
  | cons w l ih =>
    have hw := b5 w (by simp)
    simp only [List.map_cons, List.flatten_cons, List.map_append, List.flatten_append, List.map_nil, List.flatten_nil, List.append_nil]
    rw [num_ok (n := w.who) (by omega), txt_ok (l := w.box) (by omega), ih (fun u hu => b5 u (by simp [hu]))]
    try simp only [List.append_assoc]
theorem enc_5 {e : Entry} (h : e.right = true) (k : e.kind = 5) : (be6 e.kind ++ (be6 e.writer ++ be6 e.seq)) ++ (be6 e.epoch ++ (be6 (e.wraps.length : Int) ++ wb e.wraps)) = e.encB := by
  have b5 := body_5 h k
  rw [enc_flat h, head_flat h, Entry.parts, if_neg (by omega), if_neg (by omega), if_neg (by omega), if_neg (by omega), if_pos k]
  simp only [List.map_append, List.flatten_append, List.map_cons, List.map_nil, List.flatten_cons, List.flatten_nil, List.append_nil]
  rw [num_ok (n := e.epoch) (by omega), num_ok (n := (e.wraps.length : Int)) (by omega), wb_to h k]; simp only [List.append_assoc]
theorem wb_len : ∀ (l : List WrapT), (∀ w ∈ l, w.box.length = 48) → (wb l).length = 56 * l.length
  | [], _ => rfl
  | w :: l, h => by
    have h1 := h w (by simp)
    have e : wb (w :: l) = (be6 w.who ++ (be2 (w.box.length : Int) ++ w.box)) ++ wb l := rfl
    rw [e, List.length_append, wb_len l (fun u hu => h u (by simp [hu]))]
    simp only [List.length_append, List.length_cons, be6_len, h1, show (be2 ((48 : Nat) : Int)).length = 2 from rfl]; omega
theorem encB_len {e : Entry} (h : e.right = true) : 18 ≤ e.encB.length ∧ e.encB.length ≤ 1000 := by
  obtain ⟨h1, h2, h3⟩ := right_head h
  have b2 : ∀ n : Int, (be2 n).length = 2 := fun _ => rfl
  rcases (by omega : e.kind = 1 ∨ e.kind = 2 ∨ e.kind = 3 ∨ e.kind = 4 ∨ e.kind = 5) with k | k | k | k | k
  · have b := body_1 h (.inl k)
    rw [← enc_1 h k]; simp only [List.length_append, be6_len, b2]; omega
  · have b := body_1 h (.inr k)
    rw [← enc_2 h k]; simp only [List.length_append, be6_len, b2]; omega
  · rw [← enc_3 h k]; simp only [List.length_append, be6_len]; omega
  · rw [← enc_4 h k]; simp only [List.length_append, be6_len]; omega
  · have b := body_5 h k
    have hl := wb_len e.wraps (fun w hw => (b.2.1 w hw).2)
    rw [← enc_5 h k]; simp only [List.length_append, be6_len, hl]; omega
theorem mark_putB {c : Int} {b : List UInt8} (hc : 0 ≤ c ∧ c ≤ 1099511627776) (hb : b.length ≤ 4096) : putB [Any.int c, Any.bytes b] = be6 c ++ (be2 (b.length : Int) ++ b) := by
  have h0 : putE [Any.int c, Any.bytes b] = 0 := by
    rw [putE_iff]; intro a ha
    simp only [List.mem_cons, List.not_mem_nil, or_false] at ha
    rcases ha with rfl | rfl
    · exact numE_ok hc
    · exact if_pos hb
  rw [putB_ok h0]; simp only [List.map_cons, List.map_nil, List.flatten_cons, List.flatten_nil, List.append_nil]
  rw [num_ok hc, txt_ok hb]
theorem two_putB {a b : List UInt8} (ha : a.length ≤ 4096) (hb : b.length ≤ 4096) : putB [Any.bytes a, Any.bytes b] = (be2 (a.length : Int) ++ a) ++ (be2 (b.length : Int) ++ b) := by
  have h0 : putE [Any.bytes a, Any.bytes b] = 0 := by
    rw [putE_iff]; intro x hx
    simp only [List.mem_cons, List.not_mem_nil, or_false] at hx
    rcases hx with rfl | rfl
    · exact if_pos ha
    · exact if_pos hb
  rw [putB_ok h0]; simp only [List.map_cons, List.map_nil, List.flatten_cons, List.flatten_nil, List.append_nil]
  rw [txt_ok ha, txt_ok hb]
theorem markB_len (L : List Thing) (s : List UInt8) (c w : Int) (b : List UInt8) : (markB L s c w b).length = 32 := rfl
theorem tryB_len {e : Entry} (h : e.right = true) : (tryB e).length = e.encB.length + 36 := by
  have := encB_len h
  rw [tryB, two_putB (by omega) (by simp)]
  simp only [List.length_append, List.length_replicate, show ∀ n : Int, (be2 n).length = 2 from fun _ => rfl]; omega
theorem plainB_eq {L : List Thing} {s : List UInt8} {r : Record} {e : Entry} (h : e.right = true) : plainB L s r e = (be2 (e.encB.length : Int) ++ e.encB) ++ (be2 ((markB L s r.coll r.writer e.encB).length : Int) ++ markB L s r.coll r.writer e.encB) := by
  have := encB_len h
  rw [plainB, two_putB (by omega) (by rw [markB_len]; decide)]
theorem sealRE_is {k : List UInt8} {r : Record} {e : Entry} (h : e.right = true) : sealRE k r e = if e.writer ≠ r.writer then 40 else if k.length ≠ 32 then 21 else if r.nums = false then 12 else bsizeE ((e.encB.length + 36 : Nat) : Int) := by
  rw [sealRE, encE_right h, if_neg (by decide), tryB_len h]
end Go.Proofs.YtoajodjcmeijgaaGreat
