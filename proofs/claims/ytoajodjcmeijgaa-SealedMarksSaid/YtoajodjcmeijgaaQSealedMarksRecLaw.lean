import Derived.Test.YtoajodjcmeijgaaQSealedMarksSealed
set_option linter.unusedVariables false
set_option linter.unusedSimpArgs false
namespace Go.Proofs.Ytoajodjcmeijgaa
open Go.RowKit Go.Ecal
theorem beN6 (a b c d e f : UInt8) : beN [a, b, c, d, e, f] = 256 * (256 * (256 * (256 * (256 * (a.toNat : Int) + b.toNat) + c.toNat) + d.toNat) + e.toNat) + f.toNat := by simp [beN]
theorem beN2 (a b : UInt8) : beN [a, b] = 256 * (a.toNat : Int) + b.toNat := by simp [beN]
theorem beN_be6 {n : Int} (h : 0 ≤ n ∧ n ≤ 1099511627776) : beN (be6 n) = n := by
  rw [be6, beN6]; simp only [bof_nat]; omega
theorem beN_be2 {n : Int} (h : 0 ≤ n ∧ n < 65536) : beN (be2 n) = n := by
  rw [be2, beN2]; simp only [bof_nat]; omega
theorem take_app {a x : List UInt8} {n : Int} (h : (a.length : Int) = n) : rdTake ⟨a ++ x, false⟩ n = a ∧ rdTakeS ⟨a ++ x, false⟩ n = ⟨x, false⟩ := by
  have hs : rdShort ⟨a ++ x, false⟩ n = false := by simp [rdShort]; omega
  subst h
  constructor
  · rw [rdTake, if_neg (by rw [hs]; decide)]; simp
  · rw [rdTakeS, if_neg (by rw [hs]; decide)]; simp
theorem rd_num {n lo hi : Int} {x : List UInt8} (h : 0 ≤ n ∧ n ≤ 1099511627776) (h1 : lo ≤ n ∧ n ≤ hi) : rdNum ⟨be6 n ++ x, false⟩ lo hi = n ∧ rdNumS ⟨be6 n ++ x, false⟩ lo hi = ⟨x, false⟩ := by
  obtain ⟨t1, t2⟩ := take_app (a := be6 n) (x := x) (n := 6) rfl
  have hg : rdGet ⟨be6 n ++ x, false⟩ 6 = n := by rw [rdGet, t1, beN_be6 h]
  have hm : rdNumS ⟨be6 n ++ x, false⟩ lo hi = ⟨x, false⟩ := by
    rw [rdNumS, rdMid, t2, hg]; simp; omega
  exact ⟨by rw [rdNum, hm, hg]; rfl, hm⟩
theorem rd_txt {t x : List UInt8} {lo hi : Int} (h : t.length < 65536) (h1 : lo ≤ (t.length : Int) ∧ (t.length : Int) ≤ hi) : rdTxt ⟨be2 (t.length : Int) ++ (t ++ x), false⟩ lo hi = t ∧ rdTxtS ⟨be2 (t.length : Int) ++ (t ++ x), false⟩ lo hi = ⟨x, false⟩ := by
  obtain ⟨t1, t2⟩ := take_app (a := be2 (t.length : Int)) (x := t ++ x) (n := 2) rfl
  have hg : rdGet ⟨be2 (t.length : Int) ++ (t ++ x), false⟩ 2 = (t.length : Int) := by rw [rdGet, t1, beN_be2 (by omega)]
  have hm : rdMid ⟨be2 (t.length : Int) ++ (t ++ x), false⟩ 2 lo hi = ⟨t ++ x, false⟩ := by
    rw [rdMid, t2, hg]; simp; omega
  obtain ⟨t3, t4⟩ := take_app (a := t) (x := x) (n := (t.length : Int)) rfl
  exact ⟨by rw [rdTxt, hm, hg, if_neg Bool.false_ne_true, t3], by rw [rdTxtS, hm, hg, if_neg Bool.false_ne_true, t4]⟩
theorem right_iff {r : Record} : r.right = true ↔ r.nums = true ∧ 80 ≤ (r.box.length : Int) ∧ (r.box.length : Int) ≤ 2064 := by
  simp only [Record.right, Bool.and_eq_true, decide_eq_true_eq, and_assoc]
end Go.Proofs.Ytoajodjcmeijgaa
