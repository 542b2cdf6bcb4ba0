import Derived.Test.YtoajodjcmeijgaaGreatQSealedPlaysRef08
import Derived.Test.YtoajodjcmeijgaaGreatQSealedPlaysSealed
set_option linter.unusedVariables false
set_option linter.unusedSimpArgs false
namespace Go.Proofs.YtoajodjcmeijgaaGreat
open Go.RowKit Go.Ecal
theorem size13_at {n : Int} {j : Nat} (hj : j < 6) (h0 : 0 ≤ n) (hN : (0 < j → 62 < n) ∧ (1 < j → 126 < n) ∧ (2 < j → 254 < n) ∧ (3 < j → 510 < n) ∧ (4 < j → 1022 < n)) {z : Int} (hz : [64, 128, 256, 512, 1024, 2048][j]? = some z) (h : n ≤ z - 2) : bsize n = z := by
  have : j = 0 ∨ j = 1 ∨ j = 2 ∨ j = 3 ∨ j = 4 ∨ j = 5 := by omega
  rcases this with rfl | rfl | rfl | rfl | rfl | rfl <;> (simp at hz; subst hz; unfold bsize; repeat' split) <;> omega
theorem size13_end {n : Int} (h : n < 0 ∨ 2046 < n) : bsize n = 0 := (bsize_no n h).1
def padPre (l : List UInt8) (j : Nat) : List UInt8 := be2 (l.length : Int) ++ (l ++ List.replicate j 0)
theorem pre_len (l : List UInt8) (j : Nat) : (padPre l j).length = 2 + l.length + j := by simp [padPre, be2]; omega
theorem pre_step (l : List UInt8) (j : Nat) : padPre l j ++ [0] = padPre l (j + 1) := by
  simp only [padPre, List.append_assoc]; congr 2; rw [List.replicate_succ']
theorem pre_end {l : List UInt8} {j : Nat} (h : (bsize (l.length : Int)).toNat - 2 - l.length = j) : padPre l j = bpad l := by
  subst h; rfl
theorem pad_room {l : List UInt8} (h : l.length ≤ 2046) : (l.length : Int) + 2 ≤ bsize (l.length : Int) ∧ bsize (l.length : Int) ≤ 2048 := by
  obtain ⟨z, hz, _, _, h3, h4, _⟩ := bsize_facts l.length (by omega) (by omega)
  rw [hz]; exact ⟨h3, h4⟩
theorem bstrip_is {l : List UInt8} (h64 : 64 ≤ l.length) (hn : bnum l + 2 ≤ l.length) (hs : ¬ bsize (bnum l : Int) = 0) :
    (bpad ((l.drop 2).take (bnum l)) = l → bstrip l = some ((l.drop 2).take (bnum l))) ∧ (bpad ((l.drop 2).take (bnum l)) ≠ l → bstrip l = none) :=
  bpad_bstrip h64 hn (by have := bsize_ne hs; omega)
theorem strip13_t {l y : List UInt8} (h : bstrip l = some y) : stripB l = y ∧ (decide (stripE l = 0)) = true := by rw [stripB, stripE, h]; exact ⟨rfl, rfl⟩
theorem strip13_f {l : List UInt8} (h : bstrip l = none) : stripB l = [] ∧ (decide (stripE l = 0)) = false := by rw [stripB, stripE, h]; exact ⟨rfl, rfl⟩
theorem rec_eqb (a b : Record) : ((((decide (a.coll = b.coll) && decide (a.epoch = b.epoch)) && decide (a.writer = b.writer)) && decide (a.count = b.count)) && decide (a.box = b.box)) = decide (a = b) := by
  rw [Bool.eq_iff_iff]; simp only [Bool.and_eq_true, decide_eq_true_eq]
  cases a; cases b; simp; grind
theorem front_num {r : Record} (h : r.nums = true) : r.front = be6 r.coll ++ be6 r.epoch ++ be6 r.writer ++ be6 r.count := by
  rw [nums_iff] at h
  have h0 : putE r.numParts = 0 := by
    rw [putE_iff]; intro a ha
    simp only [Record.numParts, List.mem_cons, List.not_mem_nil, or_false] at ha
    rcases ha with rfl | rfl | rfl | rfl <;> exact numE_ok (by omega)
  rw [Record.front, putB_ok h0]
  simp only [Record.numParts, List.map_cons, List.map_nil, partB, List.flatten_cons, List.flatten_nil, List.append_nil]
  rw [numB_ok (by omega), numB_ok (by omega), numB_ok (by omega), numB_ok (by omega)]; simp only [List.append_assoc]
end Go.Proofs.YtoajodjcmeijgaaGreat
