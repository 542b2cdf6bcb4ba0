/- What is written is read, and nothing else. -/
import Derived.Test.YtoajodjcmeijgaaSealed
set_option linter.unusedVariables false
set_option linter.unusedSimpArgs false
namespace Go.Proofs.Ytoajodjcmeijgaa
open Go.RowKit Go.Ecal
theorem bof_of {x : Int} {c : UInt8} (h : x % 256 = (c.toNat : Int)) : bof x = c := by
  apply UInt8.toNat_inj.1
  have := bof_nat x; omega
theorem beN6 (a b c d e f : UInt8) : beN [a, b, c, d, e, f] = 256 * (256 * (256 * (256 * (256 * (a.toNat : Int) + b.toNat) + c.toNat) + d.toNat) + e.toNat) + f.toNat := by simp [beN]
theorem beN2 (a b : UInt8) : beN [a, b] = 256 * (a.toNat : Int) + b.toNat := by simp [beN]
theorem beN_be6 {n : Int} (h : 0 ≤ n ∧ n ≤ 1099511627776) : beN (be6 n) = n := by
  rw [be6, beN6]; simp only [bof_nat]; omega
theorem be6_beN {l : List UInt8} (h : l.length = 6) : be6 (beN l) = l := by
  obtain ⟨a, b, c, d, e, f, rfl⟩ : ∃ a b c d e f, l = [a, b, c, d, e, f] := by
    match l, h with
    | [a, b, c, d, e, f], _ => exact ⟨a, b, c, d, e, f, rfl⟩
  have ha := a.toNat_lt; have hb := b.toNat_lt; have hc := c.toNat_lt; have hd := d.toNat_lt; have he := e.toNat_lt; have hf := f.toNat_lt
  rw [beN6, be6]
  congr 1
  · apply bof_of; omega
  congr 1
  · apply bof_of; omega
  congr 1
  · apply bof_of; omega
  congr 1
  · apply bof_of; omega
  congr 1
  · apply bof_of; omega
  congr 1
  apply bof_of; omega
theorem beN_be2 {n : Int} (h : 0 ≤ n ∧ n < 65536) : beN (be2 n) = n := by
  rw [be2, beN2]; simp only [bof_nat]; omega
theorem be2_beN {l : List UInt8} (h : l.length = 2) : be2 (beN l) = l := by
  obtain ⟨a, b, rfl⟩ : ∃ a b, l = [a, b] := by
    match l, h with
    | [a, b], _ => exact ⟨a, b, rfl⟩
  have ha := a.toNat_lt; have hb := b.toNat_lt
  rw [beN2, be2]
  congr 1
  · apply bof_of; omega
  congr 1
  apply bof_of; omega
theorem take_app {a x : List UInt8} {n : Int} (h : (a.length : Int) = n) : rdTake ⟨a ++ x, false⟩ n = a ∧ rdTakeS ⟨a ++ x, false⟩ n = ⟨x, false⟩ := by
  have hs : rdShort ⟨a ++ x, false⟩ n = false := by simp [rdShort]; omega
  subst h
  constructor
  · rw [rdTake, if_neg (by rw [hs]; decide)]; simp
  · rw [rdTakeS, if_neg (by rw [hs]; decide)]; simp
theorem rd_num {n lo hi : Int} {x : List UInt8} (h : 0 ≤ n ∧ n ≤ 1099511627776) (h1 : lo ≤ n ∧ n ≤ hi) : rdNum ⟨be6 n ++ x, false⟩ lo hi = n ∧ rdNumS ⟨be6 n ++ x, false⟩ lo hi = ⟨x, false⟩ := by
  obtain ⟨t1, t2⟩ := take_app (a := be6 n) (x := x) (n := 6) rfl
  have hg : rdGet ⟨be6 n ++ x, false⟩ 6 = n := by rw [rdGet, t1, beN_be6 h]
  have hm : rdNumS ⟨be6 n ++ x, false⟩ lo hi = ⟨x, false⟩ := by
    rw [rdNumS, rdMid, t2, hg]; simp; omega
  exact ⟨by rw [rdNum, hm, hg]; rfl, hm⟩
theorem rd_txt {t x : List UInt8} {lo hi : Int} (h : t.length < 65536) (h1 : lo ≤ (t.length : Int) ∧ (t.length : Int) ≤ hi) : rdTxt ⟨be2 (t.length : Int) ++ (t ++ x), false⟩ lo hi = t ∧ rdTxtS ⟨be2 (t.length : Int) ++ (t ++ x), false⟩ lo hi = ⟨x, false⟩ := by
  obtain ⟨t1, t2⟩ := take_app (a := be2 (t.length : Int)) (x := t ++ x) (n := 2) rfl
  have hg : rdGet ⟨be2 (t.length : Int) ++ (t ++ x), false⟩ 2 = (t.length : Int) := by rw [rdGet, t1, beN_be2 (by omega)]
  have hm : rdMid ⟨be2 (t.length : Int) ++ (t ++ x), false⟩ 2 lo hi = ⟨t ++ x, false⟩ := by
    rw [rdMid, t2, hg]; simp; omega
  obtain ⟨t3, t4⟩ := take_app (a := t) (x := x) (n := (t.length : Int)) rfl
  exact ⟨by rw [rdTxt, hm, hg, if_neg Bool.false_ne_true, t3], by rw [rdTxtS, hm, hg, if_neg Bool.false_ne_true, t4]⟩
theorem take_back {r : Rd} {n : Int} (hn : 0 ≤ n) (h : (rdTakeS r n).bad = false) : r.bad = false ∧ ((rdTake r n).length : Int) = n ∧ r.l = rdTake r n ++ (rdTakeS r n).l := by
  have hs : rdShort r n = false := by
    cases hq : rdShort r n with
    | false => rfl
    | true => rw [rdTakeS, if_pos hq] at h; cases h
  have hs2 := hs
  simp only [rdShort, Bool.or_eq_false_iff, decide_eq_false_iff_not] at hs
  rw [rdTake, rdTakeS, if_neg (by rw [hs2]; decide), if_neg (by rw [hs2]; decide)]
  exact ⟨hs.1, by simp; omega, (List.take_append_drop _ _).symm⟩
theorem mid_back {r : Rd} {n lo hi : Int} (hn : 0 ≤ n) (h : (rdMid r n lo hi).bad = false) : r.bad = false ∧ ((rdTake r n).length : Int) = n ∧ r.l = rdTake r n ++ (rdMid r n lo hi).l ∧ lo ≤ rdGet r n ∧ rdGet r n ≤ hi := by
  simp only [rdMid, Bool.or_eq_false_iff, decide_eq_false_iff_not] at h
  obtain ⟨a, b, c⟩ := take_back hn h.1.1
  exact ⟨a, b, c, by omega, by omega⟩
theorem num_back {r : Rd} {lo hi : Int} (h : (rdNumS r lo hi).bad = false) : r.bad = false ∧ (lo ≤ rdNum r lo hi ∧ rdNum r lo hi ≤ hi) ∧ 0 ≤ rdNum r lo hi ∧ r.l = be6 (rdNum r lo hi) ++ (rdNumS r lo hi).l := by
  obtain ⟨a, b, c, d⟩ := mid_back (by decide) h
  have e : rdNum r lo hi = rdGet r 6 := by rw [rdNum, h]; rfl
  have g := rdGet6 r
  rw [e]
  refine ⟨a, d, g.1, ?_⟩
  rw [rdGet, be6_beN (by omega)]; exact c
theorem txt_back {r : Rd} {lo hi : Int} (h : (rdTxtS r lo hi).bad = false) : r.bad = false ∧ (lo ≤ ((rdTxt r lo hi).length : Int) ∧ ((rdTxt r lo hi).length : Int) ≤ hi) ∧ (rdTxt r lo hi).length < 65536 ∧ r.l = be2 ((rdTxt r lo hi).length : Int) ++ (rdTxt r lo hi ++ (rdTxtS r lo hi).l) := by
  have hm : (rdMid r 2 lo hi).bad = false := by
    cases hq : (rdMid r 2 lo hi).bad with
    | false => rfl
    | true => rw [rdTxtS, if_pos hq, hq] at h; cases h
  rw [rdTxtS, if_neg (by rw [hm]; decide)] at h
  obtain ⟨a, b, c, d⟩ := mid_back (by decide) hm
  have g := rdGet2 r
  obtain ⟨a2, b2, c2⟩ := take_back g.1 h
  rw [rdTxt, rdTxtS, if_neg (by rw [hm]; decide), if_neg (by rw [hm]; decide), b2]
  refine ⟨a, d, by omega, ?_⟩
  rw [← c2, rdGet, be2_beN (by omega)]; exact c
/-! ### Records -/
def Record.flat (r : Record) : List UInt8 := be6 r.coll ++ (be6 r.epoch ++ (be6 r.writer ++ (be6 r.count ++ (be2 (r.box.length : Int) ++ r.box))))
theorem right_iff {r : Record} : r.right = true ↔ r.nums = true ∧ 80 ≤ (r.box.length : Int) ∧ (r.box.length : Int) ≤ 2064 := by
  simp only [Record.right, Bool.and_eq_true, decide_eq_true_eq, and_assoc]
theorem rec_put {r : Record} (h : r.right = true) : putE r.allParts = 0 ∧ r.encB = r.flat := by
  have hp := h
  rw [right_iff, nums_iff] at hp
  have h0 : putE r.allParts = 0 := by
    rw [putE_iff]; intro a ha
    simp only [Record.allParts, List.mem_cons, List.not_mem_nil, or_false] at ha
    rcases ha with rfl | rfl | rfl | rfl | rfl
    · exact numE_ok (by omega)
    · exact numE_ok (by omega)
    · exact numE_ok (by omega)
    · exact numE_ok (by omega)
    · exact if_pos (by omega)
  refine ⟨h0, ?_⟩
  rw [Record.encB, if_pos h, putB_ok h0]
  simp only [Record.allParts, List.map_cons, List.map_nil, partB, List.flatten_cons, List.flatten_nil, List.append_nil]
  rw [numB_ok (by omega), numB_ok (by omega), numB_ok (by omega), numB_ok (by omega), textB, if_pos (by omega)]; rfl
theorem rec_read {r : Record} (h : r.right = true) : recOk r.flat = true ∧ recV r.flat = r := by
  have hp := h
  rw [right_iff, nums_iff] at hp
  have h5 := rd_txt (t := r.box) (x := []) (lo := 80) (hi := 2064) (by omega) (by omega)
  rw [List.append_nil] at h5
  have h4 := rd_num (n := r.count) (lo := 1) (hi := 1099511627776) (x := be2 (r.box.length : Int) ++ r.box) (by omega) (by omega)
  have h3 := rd_num (n := r.writer) (lo := 1) (hi := 16) (x := be6 r.count ++ (be2 (r.box.length : Int) ++ r.box)) (by omega) (by omega)
  have h2 := rd_num (n := r.epoch) (lo := 0) (hi := 16) (x := be6 r.writer ++ (be6 r.count ++ (be2 (r.box.length : Int) ++ r.box))) (by omega) (by omega)
  have h1 := rd_num (n := r.coll) (lo := 1) (hi := 1099511627776) (x := be6 r.epoch ++ (be6 r.writer ++ (be6 r.count ++ (be2 (r.box.length : Int) ++ r.box)))) (by omega) (by omega)
  have hr : rdRec ⟨r.flat, false⟩ = (r, ⟨[], false⟩) := by
    simp only [rdRec, Record.flat, h1.1, h1.2, h2.1, h2.2, h3.1, h3.2, h4.1, h4.2, h5.1, h5.2]
  have ho : recOk r.flat = true := by rw [recOk, hr]; rfl
  exact ⟨ho, by rw [recV, if_pos ho, hr]⟩
theorem rec_back {b : List UInt8} (h : recOk b = true) : (recV b).right = true ∧ (recV b).flat = b := by
  have hv : recV b = (rdRec ⟨b, false⟩).1 := by rw [recV, if_pos h]
  rw [recOk, rdEnd, Bool.and_eq_true, decide_eq_true_eq, Bool.not_eq_true'] at h
  rw [hv]
  obtain ⟨hb, hl⟩ := h
  simp only [rdRec] at hb hl ⊢
  obtain ⟨a5, b5, _, c5⟩ := txt_back hb
  obtain ⟨a4, b4, _, c4⟩ := num_back a5
  obtain ⟨a3, b3, _, c3⟩ := num_back a4
  obtain ⟨a2, b2, _, c2⟩ := num_back a3
  obtain ⟨a1, b1, _, c1⟩ := num_back a2
  have hnil := List.eq_nil_of_length_eq_zero (Int.ofNat_eq_zero.1 hl)
  rw [hnil, List.append_nil] at c5
  constructor
  · rw [right_iff, nums_iff]; exact ⟨⟨by omega, by omega, by omega, by omega⟩, b5⟩
  · rw [Record.flat]; dsimp only
    rw [← c5, ← c4, ← c3, ← c2, ← c1]
theorem flat_len (r : Record) : r.flat.length = 26 + r.box.length := by simp [Record.flat, be6, be2]; omega
theorem flat_head (r : Record) : (r.flat.drop 24).take 2 = be2 (r.box.length : Int) := rfl
/-- None is another one's beginning. -/
theorem flat_cut {r q : Record} {x : List UInt8} (hr : r.right = true) (hq : q.right = true) (h : r.flat = q.flat ++ x) : x = [] := by
  have h1 := (right_iff.1 hr).2; have h2 := (right_iff.1 hq).2
  have hh : be2 (r.box.length : Int) = be2 (q.box.length : Int) := by
    rw [← flat_head r, ← flat_head q, h, List.drop_append_of_le_length (by rw [flat_len]; omega), List.take_append_of_le_length (by rw [List.length_drop, flat_len]; omega)]
  have he := congrArg beN hh
  rw [beN_be2 (by omega), beN_be2 (by omega)] at he
  have hl := congrArg List.length h
  rw [List.length_append, flat_len, flat_len] at hl
  exact List.eq_nil_of_length_eq_zero (by omega)
theorem rec_cut {r : Record} {k : Nat} (hr : r.right = true) (hk : k < r.flat.length) : recOk (r.flat.take k) = false := by
  cases ho : recOk (r.flat.take k) with
  | false => rfl
  | true =>
    obtain ⟨h1, h2⟩ := rec_back ho
    have := flat_cut (r := r) (x := r.flat.drop k) hr h1 (by rw [h2, List.take_append_drop])
    have := congrArg List.length this
    rw [List.length_drop] at this; simp at this; omega
theorem rec_more {r : Record} {x : List UInt8} (hr : r.right = true) : recOk (r.flat ++ x) = true ↔ x = [] := by
  constructor
  · intro ho
    obtain ⟨h1, h2⟩ := rec_back ho
    exact flat_cut (r := recV (r.flat ++ x)) (q := r) h1 hr h2
  · rintro rfl; rw [List.append_nil]; exact (rec_read hr).1
theorem encE_iff {r : Record} : r.encE = 0 ↔ r.right = true := by
  rw [Record.encE]; split
  · rename_i h; simp [(rec_put h).1, h]
  · rename_i h; simp [h]
theorem enc_len {r : Record} (hr : r.right = true) : r.encB.length = 26 + r.box.length := by rw [(rec_put hr).2, flat_len]
theorem cuts1 {r : Record} {k : Nat} (hr : r.right = true) (hk : k < r.encB.length) : decide (recE (r.encB.take k) = 10) = true := by
  obtain ⟨_, h1⟩ := rec_put hr
  rw [h1] at hk ⊢
  rw [recE, rec_cut hr hk]; rfl
theorem cuts2 {r : Record} {x : List UInt8} (hr : r.right = true) : (decide (recE (r.encB ++ x) = 0) == decide ((x.length : Int) = 0)) = true := by
  obtain ⟨_, h1⟩ := rec_put hr
  rw [h1]
  have h2 := rec_more (x := x) hr
  rw [recE]
  cases hq : recOk (r.flat ++ x) with
  | true => have := h2.1 hq; subst this; rfl
  | false =>
    have : x ≠ [] := fun e => by rw [h2.2 e] at hq; cases hq
    cases x with
    | nil => exact absurd rfl this
    | cons a l => simp; omega
end Go.Proofs.Ytoajodjcmeijgaa
