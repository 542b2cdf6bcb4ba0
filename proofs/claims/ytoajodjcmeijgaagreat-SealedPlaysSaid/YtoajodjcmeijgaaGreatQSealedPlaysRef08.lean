import Derived.Test.YtoajodjcmeijgaaGreatQSealedPlaysReader
set_option linter.unusedVariables false
set_option linter.unusedSimpArgs false
namespace Go.Proofs.YtoajodjcmeijgaaGreat
open Go.RowKit Go.Ecal
def sixL (n : Int) (j : Nat) : List UInt8 := List.replicate (6 - j) (0 : UInt8) ++ (be6 n).drop (6 - j)
theorem six_zero (n : Int) : List.replicate 6 (0 : UInt8) = sixL n 0 := rfl
theorem six_set {n : Int} {j : Nat} (hj : j < 6) {i : Nat} (hi : i = 5 - j) : (sixL n j).set i (bof (n / 256 ^ j)) = sixL n (j + 1) := by
  subst hi
  have : j = 0 ∨ j = 1 ∨ j = 2 ∨ j = 3 ∨ j = 4 ∨ j = 5 := by omega
  rcases this with rfl | rfl | rfl | rfl | rfl | rfl <;> first | rfl | (simp only [Int.pow_zero, Int.ediv_one]; rfl)
theorem six_end (n : Int) : sixL n 6 = be6 n := rfl
theorem six_len {n : Int} {j : Nat} (hj : j ≤ 6) : (sixL n j).length = 6 := by simp only [sixL, List.length_append, List.length_replicate, List.length_drop]; rw [show (be6 n).length = 6 from rfl]; omega
theorem six_next (n q : Int) (j : Nat) (h : q = n / 256 ^ j) : q / 256 = n / 256 ^ (j + 1) := by
  rw [h, Int.pow_succ, Int.ediv_ediv_of_nonneg (Int.pow_nonneg (by decide))]
/-- The document's reader in the memory: bytes, a place in them, and is it bad? -/
def RdQ (p : Value) (r : Rd) : HP := .ex fun b => .ex fun v => .ex fun (B : List UInt8) => .ex fun (t : Nat) => Sep [.prop (p = ptr b ∧ v.oneCell' = true ∧ t ≤ B.length ∧ B.length ≤ 1000000000 ∧ r.l = B.drop t), .fact ⟨fun I => RoB I v B, fun k h => h.up k⟩, Blk b 100 [v, .int .i64 (t : Int), .bool r.bad]]
theorem RdQ.opn {w : World} {I : Gh} {R : List HP} {p : Value} {r : Rd} (S : Sat w I (RdQ p r :: R)) : ∃ (b : Nat) (v : Value) (B : List UInt8) (t : Nat), p = ptr b ∧ v.oneCell' = true ∧ t ≤ B.length ∧ B.length ≤ 1000000000 ∧ r.l = B.drop t ∧ RoB I v B ∧ Sat w I (Blk b 100 [v, .int .i64 (t : Int), .bool r.bad] :: R) := by
  obtain ⟨b, S⟩ := S.unex; obtain ⟨v, S⟩ := S.unex; obtain ⟨B, S⟩ := S.unex; obtain ⟨t, S⟩ := S.unex
  obtain ⟨⟨h1, h2, h3, h4, h5⟩, S⟩ := S.split.unprop
  obtain ⟨h6, S⟩ := S.unfact
  exact ⟨b, v, B, t, h1, h2, h3, h4, h5, h6, S⟩
theorem RdQ.cls {w : World} {I : Gh} {R : List HP} {b : Nat} {v : Value} {r : Rd} {B : List UInt8} {t : Bool} {x : Int} (n : Nat) (ho : v.oneCell' = true) (hA : RoB I v B) (hB : B.length ≤ 1000000000) (hn : x = (n : Int)) (hle : n ≤ B.length) (hr : (⟨B.drop n, t⟩ : Rd) = r) (S : Sat w I (Blk b 100 [v, .int .i64 x, .bool t] :: R)) : Sat w I (RdQ (ptr b) r :: R) := by
  subst hr; subst hn; exact Sat.toex b (Sat.toex v (Sat.toex B (Sat.toex n (Sat.join [_, _, _] ((S.tofact hA).toprop ⟨rfl, ho, hle, hB, rfl⟩)))))
theorem RdQ.ptr {w : World} {I : Gh} {R : List HP} {p : Value} {r : Rd} (S : Sat w I (RdQ p r :: R)) : ∃ b, p = Go.Ecal.ptr b := let ⟨b, _, _, _, h, _⟩ := RdQ.opn S; ⟨b, h⟩
theorem RdQ.at {w : World} {I : Gh} {R : List HP} {b : Nat} {r : Rd} (S : Sat w I (RdQ (Go.Ecal.ptr b) r :: R)) : ∃ (v : Value) (B : List UInt8) (t : Nat), v.oneCell' = true ∧ t ≤ B.length ∧ B.length ≤ 1000000000 ∧ r.l = B.drop t ∧ RoB I v B ∧ Sat w I (Blk b 100 [v, .int .i64 (t : Int), .bool r.bad] :: R) := by
  obtain ⟨b', v, B, t, h, h1, h2, h3, h4, h5, S⟩ := RdQ.opn S
  have : b = b' := by simpa [Go.Ecal.ptr] using h
  subst this; exact ⟨v, B, t, h1, h2, h3, h4, h5, S⟩
theorem rd_eq {r : Rd} {l : List UInt8} {b : Bool} (h1 : r.l = l) (h2 : r.bad = b) : (⟨l, b⟩ : Rd) = r := by subst h1; subst h2; cases r; rfl
theorem q_short {r : Rd} {B : List UInt8} {t : Nat} {n : Int} (h : r.l = B.drop t) (ht : t ≤ B.length) : rdShort r n = (r.bad || decide ((B.length : Int) - (t : Int) < n)) := by
  rw [rdShort, h, List.length_drop, show ((B.length - t : Nat) : Int) = (B.length : Int) - (t : Int) by omega]
theorem q_fits {r : Rd} {B : List UInt8} {t : Nat} {n : Int} (h : r.l = B.drop t) (ht : t ≤ B.length) (hn : 0 ≤ n) (hs : rdShort r n = false) : t + n.toNat ≤ B.length ∧ r.bad = false := by
  rw [q_short h ht] at hs; simp at hs; exact ⟨by omega, hs.1⟩
theorem q_at {r : Rd} {B : List UInt8} {t j : Nat} {n : Int} {c : UInt8} (h : r.l = B.drop t) (hs : rdShort r n = false) (hj : j < n.toNat) (hb : B[t + j]? = some c) : (rdTake r n)[j]? = some c := by
  rw [rdTake, if_neg (by rw [hs]; decide), h, List.getElem?_take, if_pos hj, List.getElem?_drop, hb]
theorem q_len {r : Rd} {B : List UInt8} {t : Nat} {n : Int} (h : r.l = B.drop t) (ht : t ≤ B.length) (hn : 0 ≤ n) (hs : rdShort r n = false) : (rdTake r n).length = n.toNat := by
  have := q_fits h ht hn hs
  rw [rdTake, if_neg (by rw [hs]; decide), h]; simp; omega
theorem q_takeS {r : Rd} {B : List UInt8} {t : Nat} {n : Int} (h : r.l = B.drop t) (hs : rdShort r n = false) : (⟨B.drop (t + n.toNat), r.bad⟩ : Rd) = rdTakeS r n := by
  rw [rdTakeS, if_neg (by rw [hs]; decide), h, List.drop_drop]
theorem q_takeB {r : Rd} {B : List UInt8} {t : Nat} {n : Int} (h : r.l = B.drop t) (hs : rdShort r n = true) : (⟨B.drop t, true⟩ : Rd) = rdTakeS r n := by rw [rdTakeS, if_pos hs, h]
theorem rdGet_short {r : Rd} {n : Int} (hs : rdShort r n = true) : rdGet r n = 0 := by rw [rdGet, rdTake, if_pos hs]; rfl
theorem mid_bad {r : Rd} {n lo hi : Int} (h : (rdMid r n lo hi).bad = false) : (rdTakeS r n).bad = false := by
  simp only [rdMid, Bool.or_eq_false_iff] at h; exact h.1.1
theorem q_txt_bad {r : Rd} {B : List UInt8} {t : Nat} {lo hi : Int} (hl : (rdTakeS r 2).l = B.drop t) (ht : t ≤ B.length) (h : ((((rdTakeS r 2).bad || decide (rdGet r 2 < lo)) || decide (hi < rdGet r 2)) || decide ((B.length : Int) - (t : Int) < rdGet r 2)) = true) :
    rdTxt r lo hi = [] ∧ (⟨B.drop t, true⟩ : Rd) = rdTxtS r lo hi := by
  cases hb : (rdMid r 2 lo hi).bad with
  | true => exact ⟨by rw [rdTxt, if_pos hb], by rw [rdTxtS, if_pos hb]; exact rd_eq hl hb⟩
  | false =>
    have hs : rdShort (rdMid r 2 lo hi) (rdGet r 2) = true := by
      rw [q_short (r := rdMid r 2 lo hi) hl ht]
      rcases Bool.or_eq_true_iff.1 h with h | h
      · have : (rdMid r 2 lo hi).bad = true := h
        rw [hb] at this; cases this
      · rw [h, Bool.or_true]
    rw [rdTxt, rdTxtS, if_neg (by rw [hb]; decide), if_neg (by rw [hb]; decide), rdTake, rdTakeS, if_pos hs, if_pos hs]
    exact ⟨rfl, rd_eq hl rfl⟩
theorem q_txt_ok {r : Rd} {B : List UInt8} {t : Nat} {lo hi : Int} (hl : (rdTakeS r 2).l = B.drop t) (ht : t ≤ B.length) (h : ((((rdTakeS r 2).bad || decide (rdGet r 2 < lo)) || decide (hi < rdGet r 2)) || decide ((B.length : Int) - (t : Int) < rdGet r 2)) = false) :
    (rdTakeS r 2).bad = false ∧ t + (rdGet r 2).toNat ≤ B.length ∧ rdTxt r lo hi = (B.take (t + (rdGet r 2).toNat)).drop t ∧ (⟨B.drop (t + (rdGet r 2).toNat), (rdTakeS r 2).bad⟩ : Rd) = rdTxtS r lo hi := by
  rw [Bool.or_eq_false_iff] at h
  have hb : (rdMid r 2 lo hi).bad = false := h.1
  have hs : rdShort (rdMid r 2 lo hi) (rdGet r 2) = false := by rw [q_short (r := rdMid r 2 lo hi) hl ht, hb, h.2]; rfl
  have hf := q_fits (r := rdMid r 2 lo hi) hl ht (rdGet2 r).1 hs
  have h0 := mid_bad hb
  have e1 : rdTxt r lo hi = (rdMid r 2 lo hi).l.take (rdGet r 2).toNat := by rw [rdTxt, if_neg (by rw [hb]; decide), rdTake, if_neg (by rw [hs]; decide)]
  have e2 : rdTxtS r lo hi = ⟨(rdMid r 2 lo hi).l.drop (rdGet r 2).toNat, (rdMid r 2 lo hi).bad⟩ := by rw [rdTxtS, if_neg (by rw [hb]; decide), rdTakeS, if_neg (by rw [hs]; decide)]
  have e3 : (rdMid r 2 lo hi).l = B.drop t := hl
  refine ⟨h0, hf.1, ?_, ?_⟩
  · rw [e1, e3, List.drop_take, Nat.add_sub_cancel_left]
  · rw [e2, e3, List.drop_drop, hb, h0]
theorem q_end {r : Rd} {B : List UInt8} {t : Nat} (h : r.l = B.drop t) (ht : t ≤ B.length) : (!r.bad && decide ((t : Int) = (B.length : Int))) = rdEnd r := by
  rw [rdEnd, h, List.length_drop]; congr 1; apply decide_eq_decide.2; omega
end Go.Proofs.YtoajodjcmeijgaaGreat
