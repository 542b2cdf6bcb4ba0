import Derived.Test.YtmalblpdkpjbcaaGreatQReplayReadersReader
import Derived.Test.YtmalblpdkpjbcaaGreatQReplayReadersSealed
set_option linter.unusedVariables false
set_option linter.unusedSimpArgs false
namespace Go.Proofs.YtmalblpdkpjbcaaGreat
open Go.RowKit Go.Ecal
/-- The document's reader in the memory: bytes, a place in them, and is it bad? -/
def RdQ (p : Value) (r : Rd) : HP := .ex fun b => .ex fun v => .ex fun (B : List UInt8) => .ex fun (t : Nat) => Sep [.prop (p = ptr b ∧ v.oneCell' = true ∧ t ≤ B.length ∧ B.length ≤ 1000000000 ∧ r.l = B.drop t), .fact ⟨fun I => RoB I v B, fun k h => h.up k⟩, Blk b 147 [v, .int .i64 (t : Int), .bool r.bad]]
theorem RdQ.opn {w : World} {I : Gh} {R : List HP} {p : Value} {r : Rd} (S : Sat w I (RdQ p r :: R)) : ∃ (b : Nat) (v : Value) (B : List UInt8) (t : Nat), p = ptr b ∧ v.oneCell' = true ∧ t ≤ B.length ∧ B.length ≤ 1000000000 ∧ r.l = B.drop t ∧ RoB I v B ∧ Sat w I (Blk b 147 [v, .int .i64 (t : Int), .bool r.bad] :: R) := by
  obtain ⟨b, S⟩ := S.unex; obtain ⟨v, S⟩ := S.unex; obtain ⟨B, S⟩ := S.unex; obtain ⟨t, S⟩ := S.unex
  obtain ⟨⟨h1, h2, h3, h4, h5⟩, S⟩ := S.split.unprop
  obtain ⟨h6, S⟩ := S.unfact
  exact ⟨b, v, B, t, h1, h2, h3, h4, h5, h6, S⟩
theorem RdQ.cls {w : World} {I : Gh} {R : List HP} {b : Nat} {v : Value} {r : Rd} {B : List UInt8} {t : Bool} {x : Int} (n : Nat) (ho : v.oneCell' = true) (hA : RoB I v B) (hB : B.length ≤ 1000000000) (hn : x = (n : Int)) (hle : n ≤ B.length) (hr : (⟨B.drop n, t⟩ : Rd) = r) (S : Sat w I (Blk b 147 [v, .int .i64 x, .bool t] :: R)) : Sat w I (RdQ (ptr b) r :: R) := by
  subst hr; subst hn; exact Sat.toex b (Sat.toex v (Sat.toex B (Sat.toex n (Sat.join [_, _, _] ((S.tofact hA).toprop ⟨rfl, ho, hle, hB, rfl⟩)))))
theorem RdQ.ptr {w : World} {I : Gh} {R : List HP} {p : Value} {r : Rd} (S : Sat w I (RdQ p r :: R)) : ∃ b, p = Go.Ecal.ptr b := let ⟨b, _, _, _, h, _⟩ := RdQ.opn S; ⟨b, h⟩
theorem RdQ.at {w : World} {I : Gh} {R : List HP} {b : Nat} {r : Rd} (S : Sat w I (RdQ (Go.Ecal.ptr b) r :: R)) : ∃ (v : Value) (B : List UInt8) (t : Nat), v.oneCell' = true ∧ t ≤ B.length ∧ B.length ≤ 1000000000 ∧ r.l = B.drop t ∧ RoB I v B ∧ Sat w I (Blk b 147 [v, .int .i64 (t : Int), .bool r.bad] :: R) := by
  obtain ⟨b', v, B, t, h, h1, h2, h3, h4, h5, S⟩ := RdQ.opn S
  have : b = b' := by simpa [Go.Ecal.ptr] using h
  subst this; exact ⟨v, B, t, h1, h2, h3, h4, h5, S⟩
end Go.Proofs.YtmalblpdkpjbcaaGreat

namespace Go.Proofs.YtmalblpdkpjbcaaGreat
open Go.RowKit Go.Ecal
theorem beN6 (a b c d e f : UInt8) : beN [a, b, c, d, e, f] = 256 * (256 * (256 * (256 * (256 * (a.toNat : Int) + b.toNat) + c.toNat) + d.toNat) + e.toNat) + f.toNat := by simp [beN]
theorem beN2 (a b : UInt8) : beN [a, b] = 256 * (a.toNat : Int) + b.toNat := by simp [beN]
theorem beN_be6 {n : Int} (h : 0 ≤ n ∧ n ≤ 1099511627776) : beN (be6 n) = n := by
  rw [be6, beN6]; simp only [bof_nat]; omega
theorem beN_be2 {n : Int} (h : 0 ≤ n ∧ n < 65536) : beN (be2 n) = n := by
  rw [be2, beN2]; simp only [bof_nat]; omega
theorem take_app {a x : List UInt8} {n : Int} (h : (a.length : Int) = n) : rdTake ⟨a ++ x, false⟩ n = a ∧ rdTakeS ⟨a ++ x, false⟩ n = ⟨x, false⟩ := by
  have hs : rdShort ⟨a ++ x, false⟩ n = false := by simp [rdShort]; omega
  subst h
  constructor
  · rw [rdTake, if_neg (by rw [hs]; decide)]; simp
  · rw [rdTakeS, if_neg (by rw [hs]; decide)]; simp
theorem rd_num {n lo hi : Int} {x : List UInt8} (h : 0 ≤ n ∧ n ≤ 1099511627776) (h1 : lo ≤ n ∧ n ≤ hi) : rdNum ⟨be6 n ++ x, false⟩ lo hi = n ∧ rdNumS ⟨be6 n ++ x, false⟩ lo hi = ⟨x, false⟩ := by
  obtain ⟨t1, t2⟩ := take_app (a := be6 n) (x := x) (n := 6) rfl
  have hg : rdGet ⟨be6 n ++ x, false⟩ 6 = n := by rw [rdGet, t1, beN_be6 h]
  have hm : rdNumS ⟨be6 n ++ x, false⟩ lo hi = ⟨x, false⟩ := by
    rw [rdNumS, rdMid, t2, hg]; simp; omega
  exact ⟨by rw [rdNum, hm, hg]; rfl, hm⟩
theorem rd_txt {t x : List UInt8} {lo hi : Int} (h : t.length < 65536) (h1 : lo ≤ (t.length : Int) ∧ (t.length : Int) ≤ hi) : rdTxt ⟨be2 (t.length : Int) ++ (t ++ x), false⟩ lo hi = t ∧ rdTxtS ⟨be2 (t.length : Int) ++ (t ++ x), false⟩ lo hi = ⟨x, false⟩ := by
  obtain ⟨t1, t2⟩ := take_app (a := be2 (t.length : Int)) (x := t ++ x) (n := 2) rfl
  have hg : rdGet ⟨be2 (t.length : Int) ++ (t ++ x), false⟩ 2 = (t.length : Int) := by rw [rdGet, t1, beN_be2 (by omega)]
  have hm : rdMid ⟨be2 (t.length : Int) ++ (t ++ x), false⟩ 2 lo hi = ⟨t ++ x, false⟩ := by
    rw [rdMid, t2, hg]; simp; omega
  obtain ⟨t3, t4⟩ := take_app (a := t) (x := x) (n := (t.length : Int)) rfl
  exact ⟨by rw [rdTxt, hm, hg, if_neg Bool.false_ne_true, t3], by rw [rdTxtS, hm, hg, if_neg Bool.false_ne_true, t4]⟩
def Record.flat (r : Record) : List UInt8 := be6 r.coll ++ (be6 r.epoch ++ (be6 r.writer ++ (be6 r.count ++ (be2 (r.box.length : Int) ++ r.box))))
theorem right_iff {r : Record} : r.right = true ↔ r.nums = true ∧ 80 ≤ (r.box.length : Int) ∧ (r.box.length : Int) ≤ 2064 := by
  simp only [Record.right, Bool.and_eq_true, decide_eq_true_eq, and_assoc]
theorem rec_put {r : Record} (h : r.right = true) : putE r.allParts = 0 ∧ r.encB = r.flat := by
  have hp := h
  rw [right_iff, nums_iff] at hp
  have h0 : putE r.allParts = 0 := by
    rw [putE_iff]; intro a ha
    simp only [Record.allParts, List.mem_cons, List.not_mem_nil, or_false] at ha
    rcases ha with rfl | rfl | rfl | rfl | rfl
    · exact numE_ok (by omega)
    · exact numE_ok (by omega)
    · exact numE_ok (by omega)
    · exact numE_ok (by omega)
    · exact if_pos (by omega)
  refine ⟨h0, ?_⟩
  rw [Record.encB, if_pos h, putB_ok h0]
  simp only [Record.allParts, List.map_cons, List.map_nil, partB, List.flatten_cons, List.flatten_nil, List.append_nil]
  rw [numB_ok (by omega), numB_ok (by omega), numB_ok (by omega), numB_ok (by omega), textB, if_pos (by omega)]; rfl
theorem rec_read {r : Record} (h : r.right = true) : recOk r.flat = true ∧ recV r.flat = r := by
  have hp := h
  rw [right_iff, nums_iff] at hp
  have h5 := rd_txt (t := r.box) (x := []) (lo := 80) (hi := 2064) (by omega) (by omega)
  rw [List.append_nil] at h5
  have h4 := rd_num (n := r.count) (lo := 1) (hi := 1099511627776) (x := be2 (r.box.length : Int) ++ r.box) (by omega) (by omega)
  have h3 := rd_num (n := r.writer) (lo := 1) (hi := 16) (x := be6 r.count ++ (be2 (r.box.length : Int) ++ r.box)) (by omega) (by omega)
  have h2 := rd_num (n := r.epoch) (lo := 0) (hi := 16) (x := be6 r.writer ++ (be6 r.count ++ (be2 (r.box.length : Int) ++ r.box))) (by omega) (by omega)
  have h1 := rd_num (n := r.coll) (lo := 1) (hi := 1099511627776) (x := be6 r.epoch ++ (be6 r.writer ++ (be6 r.count ++ (be2 (r.box.length : Int) ++ r.box)))) (by omega) (by omega)
  have hr : rdRec ⟨r.flat, false⟩ = (r, ⟨[], false⟩) := by
    simp only [rdRec, Record.flat, h1.1, h1.2, h2.1, h2.2, h3.1, h3.2, h4.1, h4.2, h5.1, h5.2]
  have ho : recOk r.flat = true := by rw [recOk, hr]; rfl
  exact ⟨ho, by rw [recV, if_pos ho, hr]⟩
theorem flat_len (r : Record) : r.flat.length = 26 + r.box.length := by simp [Record.flat, be6, be2]; omega
theorem enc_len {r : Record} (hr : r.right = true) : r.encB.length = 26 + r.box.length := by rw [(rec_put hr).2, flat_len]
end Go.Proofs.YtmalblpdkpjbcaaGreat
