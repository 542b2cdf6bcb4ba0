import Derived.Test.YtanpinfhlbbjkaaGreatQClientSeesReader
import Derived.Test.YtanpinfhlbbjkaaGreatQClientSeesRecLaw
set_option linter.unusedVariables false
set_option linter.unusedSimpArgs false
namespace Go.Proofs.YtanpinfhlbbjkaaGreat
open Go.RowKit Go.Ecal
/-- The document's reader in the memory: bytes, a place in them, and is it bad? -/
def RdQ (p : Value) (r : Rd) : HP := .ex fun b => .ex fun v => .ex fun (B : List UInt8) => .ex fun (t : Nat) => Sep [.prop (p = ptr b ∧ v.oneCell' = true ∧ t ≤ B.length ∧ B.length ≤ 1000000000 ∧ r.l = B.drop t), .fact ⟨fun I => RoB I v B, fun k h => h.up k⟩, Blk b 287 [v, .int .i64 (t : Int), .bool r.bad]]
theorem RdQ.opn {w : World} {I : Gh} {R : List HP} {p : Value} {r : Rd} (S : Sat w I (RdQ p r :: R)) : ∃ (b : Nat) (v : Value) (B : List UInt8) (t : Nat), p = ptr b ∧ v.oneCell' = true ∧ t ≤ B.length ∧ B.length ≤ 1000000000 ∧ r.l = B.drop t ∧ RoB I v B ∧ Sat w I (Blk b 287 [v, .int .i64 (t : Int), .bool r.bad] :: R) := by
  obtain ⟨b, S⟩ := S.unex; obtain ⟨v, S⟩ := S.unex; obtain ⟨B, S⟩ := S.unex; obtain ⟨t, S⟩ := S.unex
  obtain ⟨⟨h1, h2, h3, h4, h5⟩, S⟩ := S.split.unprop
  obtain ⟨h6, S⟩ := S.unfact
  exact ⟨b, v, B, t, h1, h2, h3, h4, h5, h6, S⟩
theorem RdQ.cls {w : World} {I : Gh} {R : List HP} {b : Nat} {v : Value} {r : Rd} {B : List UInt8} {t : Bool} {x : Int} (n : Nat) (ho : v.oneCell' = true) (hA : RoB I v B) (hB : B.length ≤ 1000000000) (hn : x = (n : Int)) (hle : n ≤ B.length) (hr : (⟨B.drop n, t⟩ : Rd) = r) (S : Sat w I (Blk b 287 [v, .int .i64 x, .bool t] :: R)) : Sat w I (RdQ (ptr b) r :: R) := by
  subst hr; subst hn; exact Sat.toex b (Sat.toex v (Sat.toex B (Sat.toex n (Sat.join [_, _, _] ((S.tofact hA).toprop ⟨rfl, ho, hle, hB, rfl⟩)))))
theorem RdQ.ptr {w : World} {I : Gh} {R : List HP} {p : Value} {r : Rd} (S : Sat w I (RdQ p r :: R)) : ∃ b, p = Go.Ecal.ptr b := let ⟨b, _, _, _, h, _⟩ := RdQ.opn S; ⟨b, h⟩
theorem RdQ.at {w : World} {I : Gh} {R : List HP} {b : Nat} {r : Rd} (S : Sat w I (RdQ (Go.Ecal.ptr b) r :: R)) : ∃ (v : Value) (B : List UInt8) (t : Nat), v.oneCell' = true ∧ t ≤ B.length ∧ B.length ≤ 1000000000 ∧ r.l = B.drop t ∧ RoB I v B ∧ Sat w I (Blk b 287 [v, .int .i64 (t : Int), .bool r.bad] :: R) := by
  obtain ⟨b', v, B, t, h, h1, h2, h3, h4, h5, S⟩ := RdQ.opn S
  have : b = b' := by simpa [Go.Ecal.ptr] using h
  subst this; exact ⟨v, B, t, h1, h2, h3, h4, h5, S⟩
end Go.Proofs.YtanpinfhlbbjkaaGreat

namespace Go.Proofs.YtanpinfhlbbjkaaGreat
open Go.RowKit Go.Ecal
theorem len0 {α : Type} {l : List α} : (0 < (l.length : Int)) ↔ l ≠ [] := by cases l <;> simp <;> omega
/-- What is written of a right entry, piece by piece. -/
theorem enc_flat {e : Entry} (h : e.right = true) : e.encB = (e.parts.map partB).flatten := by rw [Entry.encB, if_pos h, putB_ok (right_put h)]
theorem num_ok {n : Int} (h : 0 ≤ n ∧ n ≤ 1099511627776) : partB (.int n) = be6 n := numB_ok h
theorem txt_ok {l : List UInt8} (h : l.length ≤ 4096) : partB (.bytes l) = be2 (l.length : Int) ++ l := if_pos h
theorem head_flat {e : Entry} (h : e.right = true) : be6 e.kind ++ (be6 e.writer ++ be6 e.seq) = (([Any.int e.kind, Any.int e.writer, Any.int e.seq]).map partB).flatten := by
  obtain ⟨h1, h2, h3⟩ := right_head h
  simp only [List.map_cons, List.map_nil, List.flatten_cons, List.flatten_nil, List.append_nil]
  rw [num_ok (by omega), num_ok (by omega), num_ok (by omega)]
theorem right_body {e : Entry} (h : e.right = true) : e.body = true := by simp only [Entry.right, Bool.and_eq_true] at h; exact h.2
theorem body_1 {e : Entry} (h : e.right = true) (k : e.kind = 1 ∨ e.kind = 2) : e.name.length ≤ 64 ∧ e.value.length ≤ 512 := by
  have := right_body h
  rw [Entry.body, if_pos k] at this; simp only [Bool.and_eq_true, within_iff, decide_eq_true_eq] at this; omega
theorem body_3 {e : Entry} (h : e.right = true) (k : e.kind = 3) : (1 ≤ e.who ∧ e.who ≤ 16) ∧ 1 ≤ e.rights ∧ e.rights ≤ 7 := by
  have := right_body h
  rw [Entry.body, if_neg (by omega), if_pos k] at this; simpa only [Bool.and_eq_true, within_iff] using this
theorem body_4 {e : Entry} (h : e.right = true) (k : e.kind = 4) : 1 ≤ e.who ∧ e.who ≤ 16 := by
  have := right_body h
  rw [Entry.body, if_neg (by omega), if_neg (by omega), if_pos k] at this; simpa only [within_iff] using this
theorem body_5 {e : Entry} (h : e.right = true) (k : e.kind = 5) : (1 ≤ e.epoch ∧ e.epoch ≤ 16) ∧ (∀ w ∈ e.wraps, (1 ≤ w.who ∧ w.who ≤ 16) ∧ w.box.length = 48) ∧ e.wraps.length ≤ 16 := by
  have := right_body h
  rw [Entry.body, if_neg (by omega), if_neg (by omega), if_neg (by omega)] at this
  simp only [Bool.and_eq_true, within_iff, wrapsOk, decide_eq_true_eq] at this
  exact ⟨this.1, wraps_each this.2.1, this.2.2⟩
theorem enc_1 {e : Entry} (h : e.right = true) (k : e.kind = 1) : (be6 e.kind ++ (be6 e.writer ++ be6 e.seq)) ++ ((be2 (e.name.length : Int) ++ e.name) ++ (be2 (e.value.length : Int) ++ e.value)) = e.encB := by
  have b := body_1 h (.inl k)
  rw [enc_flat h, head_flat h, Entry.parts, if_pos k]
  simp only [List.map_append, List.flatten_append, List.map_cons, List.map_nil, List.flatten_cons, List.flatten_nil, List.append_nil]
  rw [txt_ok (l := e.name) (by omega), txt_ok (l := e.value) (by omega)]
theorem enc_2 {e : Entry} (h : e.right = true) (k : e.kind = 2) : (be6 e.kind ++ (be6 e.writer ++ be6 e.seq)) ++ (be2 (e.name.length : Int) ++ e.name) = e.encB := by
  have b := body_1 h (.inr k)
  rw [enc_flat h, head_flat h, Entry.parts, if_neg (by omega), if_pos k]
  simp only [List.map_append, List.flatten_append, List.map_cons, List.map_nil, List.flatten_cons, List.flatten_nil, List.append_nil]
  rw [txt_ok (l := e.name) (by omega)]
theorem enc_3 {e : Entry} (h : e.right = true) (k : e.kind = 3) : (be6 e.kind ++ (be6 e.writer ++ be6 e.seq)) ++ (be6 e.who ++ be6 e.rights) = e.encB := by
  have b := body_3 h k
  rw [enc_flat h, head_flat h, Entry.parts, if_neg (by omega), if_neg (by omega), if_pos k]
  simp only [List.map_append, List.flatten_append, List.map_cons, List.map_nil, List.flatten_cons, List.flatten_nil, List.append_nil]
  rw [num_ok (n := e.who) (by omega), num_ok (n := e.rights) (by omega)]
theorem enc_4 {e : Entry} (h : e.right = true) (k : e.kind = 4) : (be6 e.kind ++ (be6 e.writer ++ be6 e.seq)) ++ be6 e.who = e.encB := by
  have b := body_4 h k
  rw [enc_flat h, head_flat h, Entry.parts, if_neg (by omega), if_neg (by omega), if_neg (by omega), if_pos k]
  simp only [List.map_append, List.flatten_append, List.map_cons, List.map_nil, List.flatten_cons, List.flatten_nil, List.append_nil]
  rw [num_ok (n := e.who) (by omega)]
def smallE (e : Entry) : Bool := (e.wraps.all fun w => decide (w.box.length ≤ 100)) && (decide (e.name.length ≤ 100) && decide (e.value.length ≤ 600) && decide (e.wraps.length ≤ 20))
theorem small_iff {e : Entry} : smallE e = true ↔ (∀ w ∈ e.wraps, w.box.length ≤ 100) ∧ e.name.length ≤ 100 ∧ e.value.length ≤ 600 ∧ e.wraps.length ≤ 20 := by
  simp [smallE, and_assoc]
theorem small_next {l : List WrapT} {j : Nat} {a : WrapT} (h : ∀ w ∈ l.take j, w.box.length ≤ 100) (ha : l[j]? = some a) (hb : a.box.length ≤ 100) : ∀ w ∈ l.take (j + 1), w.box.length ≤ 100 := by
  intro w hw
  rw [List.take_add_one, ha] at hw
  rcases List.mem_append.1 hw with hw | hw
  · exact h w hw
  · simp at hw; rw [hw]; exact hb
theorem smallE_no {e : Entry} {j : Nat} {a : WrapT} (ha : e.wraps[j]? = some a) (hb : ¬ a.box.length ≤ 100) : smallE e = false := by
  rw [← Bool.not_eq_true]; intro h; exact hb ((small_iff.1 h).1 a (List.mem_of_getElem? ha))
theorem smallE_is {e : Entry} (h : ∀ w ∈ e.wraps, w.box.length ≤ 100) : ((decide ((e.name.length : Int) ≤ 100) && decide ((e.value.length : Int) ≤ 600)) && decide ((e.wraps.length : Int) ≤ 20)) = smallE e := by
  rw [Bool.eq_iff_iff, small_iff]; simp only [Bool.and_eq_true, decide_eq_true_eq]
  constructor
  · intro hh; exact ⟨h, by omega, by omega, by omega⟩
  · intro hh; omega
end Go.Proofs.YtanpinfhlbbjkaaGreat

namespace Go.Proofs.YtanpinfhlbbjkaaGreat
open Go.RowKit Go.Ecal
def wb (l : List WrapT) : List UInt8 := (l.map fun w => be6 w.who ++ (be2 (w.box.length : Int) ++ w.box)).flatten
theorem rdWraps_wb {x : List UInt8} : ∀ (l : List WrapT) (a : List WrapT), (∀ w ∈ l, (1 ≤ w.who ∧ w.who ≤ 16) ∧ w.box.length = 48) → rdWraps l.length ⟨wb l ++ x, false⟩ a = (a ++ l, ⟨x, false⟩)
  | [], a, _ => by simp [rdWraps, wb]
  | w :: l, a, h => by
    obtain ⟨h1, h2⟩ := h w (by simp)
    have n := rd_num (n := w.who) (lo := 1) (hi := 16) (x := be2 (w.box.length : Int) ++ (w.box ++ (wb l ++ x))) (by omega) h1
    have t := rd_txt (t := w.box) (lo := 48) (hi := 48) (x := wb l ++ x) (by omega) (by omega)
    have e : wb (w :: l) ++ x = be6 w.who ++ (be2 (w.box.length : Int) ++ (w.box ++ (wb l ++ x))) := by simp only [wb, List.map_cons, List.flatten_cons, List.append_assoc]
    rw [List.length_cons, rdWraps, e, if_neg Bool.false_ne_true, n.1, n.2, t.1, t.2, rdWraps_wb l _ (fun u hu => h u (by simp [hu]))]
    simp
theorem wb_to {e : Entry} (h : e.right = true) (k : e.kind = 5) : ((wrapParts e.wraps).map partB).flatten = wb e.wraps := by
  have b5 := (body_5 h k).2.1
  rw [wrapParts, wb]
  generalize e.wraps = l at b5
  induction l with
  | nil => rfl
  | cons w l ih =>
    have hw := b5 w (by simp)
    simp only [List.map_cons, List.flatten_cons, List.map_append, List.flatten_append, List.map_nil, List.flatten_nil, List.append_nil]
    rw [num_ok (n := w.who) (by omega), txt_ok (l := w.box) (by omega), ih (fun u hu => b5 u (by simp [hu]))]
    try simp only [List.append_assoc]
theorem enc_5 {e : Entry} (h : e.right = true) (k : e.kind = 5) : (be6 e.kind ++ (be6 e.writer ++ be6 e.seq)) ++ (be6 e.epoch ++ (be6 (e.wraps.length : Int) ++ wb e.wraps)) = e.encB := by
  have b5 := body_5 h k
  rw [enc_flat h, head_flat h, Entry.parts, if_neg (by omega), if_neg (by omega), if_neg (by omega), if_neg (by omega), if_pos k]
  simp only [List.map_append, List.flatten_append, List.map_cons, List.map_nil, List.flatten_cons, List.flatten_nil, List.append_nil]
  rw [num_ok (n := e.epoch) (by omega), num_ok (n := (e.wraps.length : Int)) (by omega), wb_to h k]; simp only [List.append_assoc]
theorem right_bare {e : Entry} (h : e.right = true) : e = e.bare := by simp only [Entry.right, Bool.and_eq_true, decide_eq_true_eq] at h; exact h.1.2
theorem rd_entry {e : Entry} (h : e.right = true) : rdEntry ⟨e.encB, false⟩ = (e, ⟨[], false⟩) := by
  obtain ⟨h1, h2, h3⟩ := right_head h
  have hb := right_bare h
  have go : ∀ rest : List UInt8, (be6 e.kind ++ (be6 e.writer ++ be6 e.seq)) ++ rest = e.encB → rdEntry ⟨e.encB, false⟩ = rdBody e.kind e.writer e.seq ⟨rest, false⟩ := by
    intro rest hr
    have n1 := rd_num (n := e.kind) (lo := 1) (hi := 5) (x := be6 e.writer ++ (be6 e.seq ++ rest)) (by omega) h1
    have n2 := rd_num (n := e.writer) (lo := 1) (hi := 16) (x := be6 e.seq ++ rest) (by omega) h2
    have n3 := rd_num (n := e.seq) (lo := 1) (hi := 1099511627776) (x := rest) (by omega) h3
    rw [← hr, rdEntry]
    simp only [List.append_assoc, n1.1, n1.2, n2.1, n2.2, n3.1, n3.2]
  rcases (by omega : e.kind = 1 ∨ e.kind = 2 ∨ e.kind = 3 ∨ e.kind = 4 ∨ e.kind = 5) with k | k | k | k | k
  · have b := body_1 h (.inl k)
    have hn : 1 ≤ e.name.length := by have := right_body h; rw [Entry.body, if_pos (.inl k)] at this; simp only [Bool.and_eq_true, within_iff] at this; omega
    rw [go _ (enc_1 h k), rdBody, if_pos k]
    have t1 := rd_txt (t := e.name) (lo := 1) (hi := 64) (x := be2 (e.value.length : Int) ++ e.value) (by omega) (by omega)
    have t2 := rd_txt (t := e.value) (lo := 0) (hi := 512) (x := []) (by omega) (by omega)
    rw [List.append_nil] at t2
    simp only [List.append_assoc, t1.1, t1.2, t2.1, t2.2]
    refine Prod.ext ?_ rfl
    conv => rhs; rw [hb]
    simp [Entry.bare, k]
  · have b := body_1 h (.inr k)
    have hn : 1 ≤ e.name.length := by have := right_body h; rw [Entry.body, if_pos (.inr k)] at this; simp only [Bool.and_eq_true, within_iff] at this; omega
    rw [go _ (enc_2 h k), rdBody, if_neg (by omega), if_pos k]
    have t1 := rd_txt (t := e.name) (lo := 1) (hi := 64) (x := []) (by omega) (by omega)
    rw [List.append_nil] at t1
    simp only [t1.1, t1.2]
    refine Prod.ext ?_ rfl
    conv => rhs; rw [hb]
    simp [Entry.bare, k]
  · have b := body_3 h k
    rw [go _ (enc_3 h k), rdBody, if_neg (by omega), if_neg (by omega), if_pos k]
    have t1 := rd_num (n := e.who) (lo := 1) (hi := 16) (x := be6 e.rights) (by omega) b.1
    have t2 := rd_num (n := e.rights) (lo := 1) (hi := 7) (x := []) (by omega) b.2
    rw [List.append_nil] at t2
    simp only [t1.1, t1.2, t2.1, t2.2]
    refine Prod.ext ?_ rfl
    conv => rhs; rw [hb]
    simp [Entry.bare, k]
  · have b := body_4 h k
    rw [go _ (enc_4 h k), rdBody, if_neg (by omega), if_neg (by omega), if_neg (by omega), if_pos k]
    have t1 := rd_num (n := e.who) (lo := 1) (hi := 16) (x := []) (by omega) b
    rw [List.append_nil] at t1
    simp only [t1.1, t1.2]
    refine Prod.ext ?_ rfl
    conv => rhs; rw [hb]
    simp [Entry.bare, k]
  · have b := body_5 h k
    rw [go _ (enc_5 h k), rdBody, if_neg (by omega), if_neg (by omega), if_neg (by omega), if_neg (by omega), if_pos k]
    have t1 := rd_num (n := e.epoch) (lo := 1) (hi := 16) (x := be6 (e.wraps.length : Int) ++ wb e.wraps) (by omega) b.1
    have t2 := rd_num (n := (e.wraps.length : Int)) (lo := 0) (hi := 16) (x := wb e.wraps) (by omega) (by omega)
    have t3 := rdWraps_wb (x := []) e.wraps [] b.2.1
    rw [List.append_nil, List.nil_append] at t3
    simp only [t1.1, t1.2, t2.1, t2.2, Int.toNat_natCast, t3]
    refine Prod.ext ?_ rfl
    conv => rhs; rw [hb]
    simp [Entry.bare, k]
theorem dec_enc {e : Entry} (h : e.right = true) : decE e.encB = 0 ∧ decV e.encB = e := by
  have hr := rd_entry h
  have ho : decOk e.encB = true := by rw [decOk, hr, h]; rfl
  exact ⟨by rw [decE, if_pos ho], by rw [decV, if_pos ho, hr]⟩
theorem wb_len : ∀ (l : List WrapT), (∀ w ∈ l, w.box.length = 48) → (wb l).length = 56 * l.length
  | [], _ => rfl
  | w :: l, h => by
    have h1 := h w (by simp)
    have e : wb (w :: l) = (be6 w.who ++ (be2 (w.box.length : Int) ++ w.box)) ++ wb l := rfl
    rw [e, List.length_append, wb_len l (fun u hu => h u (by simp [hu]))]
    simp only [List.length_append, List.length_cons, be6_len, h1, show (be2 ((48 : Nat) : Int)).length = 2 from rfl]; omega
theorem encB_len {e : Entry} (h : e.right = true) : 18 ≤ e.encB.length ∧ e.encB.length ≤ 1000 := by
  obtain ⟨h1, h2, h3⟩ := right_head h
  have b2 : ∀ n : Int, (be2 n).length = 2 := fun _ => rfl
  rcases (by omega : e.kind = 1 ∨ e.kind = 2 ∨ e.kind = 3 ∨ e.kind = 4 ∨ e.kind = 5) with k | k | k | k | k
  · have b := body_1 h (.inl k)
    rw [← enc_1 h k]; simp only [List.length_append, be6_len, b2]; omega
  · have b := body_1 h (.inr k)
    rw [← enc_2 h k]; simp only [List.length_append, be6_len, b2]; omega
  · rw [← enc_3 h k]; simp only [List.length_append, be6_len]; omega
  · rw [← enc_4 h k]; simp only [List.length_append, be6_len]; omega
  · have b := body_5 h k
    have hl := wb_len e.wraps (fun w hw => (b.2.1 w hw).2)
    rw [← enc_5 h k]; simp only [List.length_append, be6_len, hl]; omega
theorem onceL_more {t : Thing} {L M : List Thing} : onceL t (onceL t L ++ M) = onceL t L ++ M := onceL_of (idx_more (once_idx t L) M)
theorem onceN_more {t : Thing} {L M : List Thing} : (onceN t (onceL t L ++ M) : Int) = onceN t L := ((two_once t t L M).2 rfl).symm
theorem markL_app (L : List Thing) (s : List UInt8) (c w : Int) (b : List UInt8) : ∃ M, markL L s c w b = L ++ M := by
  obtain ⟨A, hA⟩ := onceL_app (markT L s c w b) (rightL L s uWriter w)
  rw [markL, hA, rightL]; split
  · obtain ⟨B, hB⟩ := onceL_app (derT s uWriter w) L
    exact ⟨B ++ A, by rw [hB, List.append_assoc]⟩
  · exact ⟨A, rfl⟩
theorem right_again {L M : List Thing} {s u : List UInt8} {n : Int} : rightB (rightL L s u n ++ M) s u n = rightB L s u n ∧ rightL (rightL L s u n ++ M) s u n = rightL L s u n ++ M := by
  by_cases h : rightW n = true
  · have e : rightL L s u n = onceL (derT s u n) L := by rw [rightL, if_pos h]
    rw [e]
    refine ⟨?_, ?_⟩
    · rw [rightB, rightB, if_pos h, if_pos h, keyFor, keyFor, onceN_more]
    · rw [rightL, if_pos h, onceL_more]
  · have e : ∀ K, rightL K s u n = K := fun K => by rw [rightL, if_neg h]
    refine ⟨by rw [rightB, rightB, if_neg h, if_neg h], by rw [e, e]⟩
/-- A mark that was made is found again. -/
theorem mark_again {L M X : List Thing} {s : List UInt8} {c w : Int} {b : List UInt8} (hM : M = markL L s c w b ++ X) : markB M s c w b = markB L s c w b ∧ markL M s c w b = M := by
  obtain ⟨A, hA⟩ := onceL_app (markT L s c w b) (rightL L s uWriter w)
  have hM2 : M = rightL L s uWriter w ++ (A ++ X) := by rw [hM, markL, hA, List.append_assoc]
  have hr := right_again (L := L) (M := A ++ X) (s := s) (u := uWriter) (n := w)
  rw [← hM2] at hr
  have ht : markT M s c w b = markT L s c w b := by rw [markT, markT, hr.1]
  have hM3 : M = onceL (markT L s c w b) (rightL L s uWriter w) ++ X := hM
  constructor
  · rw [markB, markB, ht, hr.2]; congr 1; rw [hM3]; exact onceN_more
  · rw [markL, ht, hr.2, hM3, onceL_more]
theorem two_putB {a b : List UInt8} (ha : a.length ≤ 4096) (hb : b.length ≤ 4096) : putB [Any.bytes a, Any.bytes b] = (be2 (a.length : Int) ++ a) ++ (be2 (b.length : Int) ++ b) := by
  have h0 : putE [Any.bytes a, Any.bytes b] = 0 := by
    rw [putE_iff]; intro x hx
    simp only [List.mem_cons, List.not_mem_nil, or_false] at hx
    rcases hx with rfl | rfl
    · exact if_pos ha
    · exact if_pos hb
  rw [putB_ok h0]; simp only [List.map_cons, List.map_nil, List.flatten_cons, List.flatten_nil, List.append_nil]
  rw [txt_ok ha, txt_ok hb]
theorem markB_len (L : List Thing) (s : List UInt8) (c w : Int) (b : List UInt8) : (markB L s c w b).length = 32 := rfl
theorem tryB_len {e : Entry} (h : e.right = true) : (tryB e).length = e.encB.length + 36 := by
  have := encB_len h
  rw [tryB, two_putB (by omega) (by simp)]
  simp only [List.length_append, List.length_replicate, show ∀ n : Int, (be2 n).length = 2 from fun _ => rfl]; omega
theorem plainB_eq {L : List Thing} {s : List UInt8} {r : Record} {e : Entry} (h : e.right = true) : plainB L s r e = (be2 (e.encB.length : Int) ++ e.encB) ++ (be2 ((markB L s r.coll r.writer e.encB).length : Int) ++ markB L s r.coll r.writer e.encB) := by
  have := encB_len h
  rw [plainB, two_putB (by omega) (by rw [markB_len]; decide)]
theorem sealRE_is {k : List UInt8} {r : Record} {e : Entry} (h : e.right = true) : sealRE k r e = if e.writer ≠ r.writer then 40 else if k.length ≠ 32 then 21 else if r.nums = false then 12 else bsizeE ((e.encB.length + 36 : Nat) : Int) := by
  rw [sealRE, encE_right h, if_neg (by decide), tryB_len h]
end Go.Proofs.YtanpinfhlbbjkaaGreat
