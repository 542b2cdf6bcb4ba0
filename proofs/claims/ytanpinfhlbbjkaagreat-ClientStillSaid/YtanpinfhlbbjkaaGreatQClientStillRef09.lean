import Derived.Test.YtanpinfhlbbjkaaGreatQClientStillReader
import Derived.Test.YtanpinfhlbbjkaaGreatQClientStillFrame
set_option linter.unusedVariables false
set_option linter.unusedSimpArgs false
namespace Go.Proofs.YtanpinfhlbbjkaaGreat
open Go.RowKit Go.Ecal
/-- The document's reader in the memory: bytes, a place in them, and is it bad? -/
def RdQ (p : Value) (r : Rd) : HP := .ex fun b => .ex fun v => .ex fun (B : List UInt8) => .ex fun (t : Nat) => Sep [.prop (p = ptr b ∧ v.oneCell' = true ∧ t ≤ B.length ∧ B.length ≤ 1000000000 ∧ r.l = B.drop t), .fact ⟨fun I => RoB I v B, fun k h => h.up k⟩, Blk b 287 [v, .int .i64 (t : Int), .bool r.bad]]
theorem RdQ.opn {w : World} {I : Gh} {R : List HP} {p : Value} {r : Rd} (S : Sat w I (RdQ p r :: R)) : ∃ (b : Nat) (v : Value) (B : List UInt8) (t : Nat), p = ptr b ∧ v.oneCell' = true ∧ t ≤ B.length ∧ B.length ≤ 1000000000 ∧ r.l = B.drop t ∧ RoB I v B ∧ Sat w I (Blk b 287 [v, .int .i64 (t : Int), .bool r.bad] :: R) := by
  obtain ⟨b, S⟩ := S.unex; obtain ⟨v, S⟩ := S.unex; obtain ⟨B, S⟩ := S.unex; obtain ⟨t, S⟩ := S.unex
  obtain ⟨⟨h1, h2, h3, h4, h5⟩, S⟩ := S.split.unprop
  obtain ⟨h6, S⟩ := S.unfact
  exact ⟨b, v, B, t, h1, h2, h3, h4, h5, h6, S⟩
theorem RdQ.cls {w : World} {I : Gh} {R : List HP} {b : Nat} {v : Value} {r : Rd} {B : List UInt8} {t : Bool} {x : Int} (n : Nat) (ho : v.oneCell' = true) (hA : RoB I v B) (hB : B.length ≤ 1000000000) (hn : x = (n : Int)) (hle : n ≤ B.length) (hr : (⟨B.drop n, t⟩ : Rd) = r) (S : Sat w I (Blk b 287 [v, .int .i64 x, .bool t] :: R)) : Sat w I (RdQ (ptr b) r :: R) := by
  subst hr; subst hn; exact Sat.toex b (Sat.toex v (Sat.toex B (Sat.toex n (Sat.join [_, _, _] ((S.tofact hA).toprop ⟨rfl, ho, hle, hB, rfl⟩)))))
theorem RdQ.ptr {w : World} {I : Gh} {R : List HP} {p : Value} {r : Rd} (S : Sat w I (RdQ p r :: R)) : ∃ b, p = Go.Ecal.ptr b := let ⟨b, _, _, _, h, _⟩ := RdQ.opn S; ⟨b, h⟩
theorem RdQ.at {w : World} {I : Gh} {R : List HP} {b : Nat} {r : Rd} (S : Sat w I (RdQ (Go.Ecal.ptr b) r :: R)) : ∃ (v : Value) (B : List UInt8) (t : Nat), v.oneCell' = true ∧ t ≤ B.length ∧ B.length ≤ 1000000000 ∧ r.l = B.drop t ∧ RoB I v B ∧ Sat w I (Blk b 287 [v, .int .i64 (t : Int), .bool r.bad] :: R) := by
  obtain ⟨b', v, B, t, h, h1, h2, h3, h4, h5, S⟩ := RdQ.opn S
  have : b = b' := by simpa [Go.Ecal.ptr] using h
  subst this; exact ⟨v, B, t, h1, h2, h3, h4, h5, S⟩
end Go.Proofs.YtanpinfhlbbjkaaGreat

namespace Go.Proofs.YtanpinfhlbbjkaaGreat
open Go.RowKit Go.Ecal
theorem len0 {α : Type} {l : List α} : (0 < (l.length : Int)) ↔ l ≠ [] := by cases l <;> simp <;> omega
/-- What is written of a right entry, piece by piece. -/
theorem enc_flat {e : Entry} (h : e.right = true) : e.encB = (e.parts.map partB).flatten := by rw [Entry.encB, if_pos h, putB_ok (right_put h)]
theorem num_ok {n : Int} (h : 0 ≤ n ∧ n ≤ 1099511627776) : partB (.int n) = be6 n := numB_ok h
theorem txt_ok {l : List UInt8} (h : l.length ≤ 4096) : partB (.bytes l) = be2 (l.length : Int) ++ l := if_pos h
theorem head_flat {e : Entry} (h : e.right = true) : be6 e.kind ++ (be6 e.writer ++ be6 e.seq) = (([Any.int e.kind, Any.int e.writer, Any.int e.seq]).map partB).flatten := by
  obtain ⟨h1, h2, h3⟩ := right_head h
  simp only [List.map_cons, List.map_nil, List.flatten_cons, List.flatten_nil, List.append_nil]
  rw [num_ok (by omega), num_ok (by omega), num_ok (by omega)]
theorem right_body {e : Entry} (h : e.right = true) : e.body = true := by simp only [Entry.right, Bool.and_eq_true] at h; exact h.2
theorem body_1 {e : Entry} (h : e.right = true) (k : e.kind = 1 ∨ e.kind = 2) : e.name.length ≤ 64 ∧ e.value.length ≤ 512 := by
  have := right_body h
  rw [Entry.body, if_pos k] at this; simp only [Bool.and_eq_true, within_iff, decide_eq_true_eq] at this; omega
theorem body_3 {e : Entry} (h : e.right = true) (k : e.kind = 3) : (1 ≤ e.who ∧ e.who ≤ 16) ∧ 1 ≤ e.rights ∧ e.rights ≤ 7 := by
  have := right_body h
  rw [Entry.body, if_neg (by omega), if_pos k] at this; simpa only [Bool.and_eq_true, within_iff] using this
theorem body_4 {e : Entry} (h : e.right = true) (k : e.kind = 4) : 1 ≤ e.who ∧ e.who ≤ 16 := by
  have := right_body h
  rw [Entry.body, if_neg (by omega), if_neg (by omega), if_pos k] at this; simpa only [within_iff] using this
theorem body_5 {e : Entry} (h : e.right = true) (k : e.kind = 5) : (1 ≤ e.epoch ∧ e.epoch ≤ 16) ∧ (∀ w ∈ e.wraps, (1 ≤ w.who ∧ w.who ≤ 16) ∧ w.box.length = 48) ∧ e.wraps.length ≤ 16 := by
  have := right_body h
  rw [Entry.body, if_neg (by omega), if_neg (by omega), if_neg (by omega)] at this
  simp only [Bool.and_eq_true, within_iff, wrapsOk, decide_eq_true_eq] at this
  exact ⟨this.1, wraps_each this.2.1, this.2.2⟩
theorem enc_1 {e : Entry} (h : e.right = true) (k : e.kind = 1) : (be6 e.kind ++ (be6 e.writer ++ be6 e.seq)) ++ ((be2 (e.name.length : Int) ++ e.name) ++ (be2 (e.value.length : Int) ++ e.value)) = e.encB := by
  have b := body_1 h (.inl k)
  rw [enc_flat h, head_flat h, Entry.parts, if_pos k]
  simp only [List.map_append, List.flatten_append, List.map_cons, List.map_nil, List.flatten_cons, List.flatten_nil, List.append_nil]
  rw [txt_ok (l := e.name) (by omega), txt_ok (l := e.value) (by omega)]
theorem enc_2 {e : Entry} (h : e.right = true) (k : e.kind = 2) : (be6 e.kind ++ (be6 e.writer ++ be6 e.seq)) ++ (be2 (e.name.length : Int) ++ e.name) = e.encB := by
  have b := body_1 h (.inr k)
  rw [enc_flat h, head_flat h, Entry.parts, if_neg (by omega), if_pos k]
  simp only [List.map_append, List.flatten_append, List.map_cons, List.map_nil, List.flatten_cons, List.flatten_nil, List.append_nil]
  rw [txt_ok (l := e.name) (by omega)]
theorem enc_3 {e : Entry} (h : e.right = true) (k : e.kind = 3) : (be6 e.kind ++ (be6 e.writer ++ be6 e.seq)) ++ (be6 e.who ++ be6 e.rights) = e.encB := by
  have b := body_3 h k
  rw [enc_flat h, head_flat h, Entry.parts, if_neg (by omega), if_neg (by omega), if_pos k]
  simp only [List.map_append, List.flatten_append, List.map_cons, List.map_nil, List.flatten_cons, List.flatten_nil, List.append_nil]
  rw [num_ok (n := e.who) (by omega), num_ok (n := e.rights) (by omega)]
theorem enc_4 {e : Entry} (h : e.right = true) (k : e.kind = 4) : (be6 e.kind ++ (be6 e.writer ++ be6 e.seq)) ++ be6 e.who = e.encB := by
  have b := body_4 h k
  rw [enc_flat h, head_flat h, Entry.parts, if_neg (by omega), if_neg (by omega), if_neg (by omega), if_pos k]
  simp only [List.map_append, List.flatten_append, List.map_cons, List.map_nil, List.flatten_cons, List.flatten_nil, List.append_nil]
  rw [num_ok (n := e.who) (by omega)]
def smallE (e : Entry) : Bool := (e.wraps.all fun w => decide (w.box.length ≤ 100)) && (decide (e.name.length ≤ 100) && decide (e.value.length ≤ 600) && decide (e.wraps.length ≤ 20))
theorem small_iff {e : Entry} : smallE e = true ↔ (∀ w ∈ e.wraps, w.box.length ≤ 100) ∧ e.name.length ≤ 100 ∧ e.value.length ≤ 600 ∧ e.wraps.length ≤ 20 := by
  simp [smallE, and_assoc]
theorem small_next {l : List WrapT} {j : Nat} {a : WrapT} (h : ∀ w ∈ l.take j, w.box.length ≤ 100) (ha : l[j]? = some a) (hb : a.box.length ≤ 100) : ∀ w ∈ l.take (j + 1), w.box.length ≤ 100 := by
  intro w hw
  rw [List.take_add_one, ha] at hw
  rcases List.mem_append.1 hw with hw | hw
  · exact h w hw
  · simp at hw; rw [hw]; exact hb
theorem smallE_no {e : Entry} {j : Nat} {a : WrapT} (ha : e.wraps[j]? = some a) (hb : ¬ a.box.length ≤ 100) : smallE e = false := by
  rw [← Bool.not_eq_true]; intro h; exact hb ((small_iff.1 h).1 a (List.mem_of_getElem? ha))
theorem smallE_is {e : Entry} (h : ∀ w ∈ e.wraps, w.box.length ≤ 100) : ((decide ((e.name.length : Int) ≤ 100) && decide ((e.value.length : Int) ≤ 600)) && decide ((e.wraps.length : Int) ≤ 20)) = smallE e := by
  rw [Bool.eq_iff_iff, small_iff]; simp only [Bool.and_eq_true, decide_eq_true_eq]
  constructor
  · intro hh; exact ⟨h, by omega, by omega, by omega⟩
  · intro hh; omega
end Go.Proofs.YtanpinfhlbbjkaaGreat
