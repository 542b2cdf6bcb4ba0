import Derived.Test.YtoajodjcmeijgaaGreatQSealedPlaysCode
set_option linter.unusedVariables false
set_option linter.unusedSimpArgs false
namespace Go.Proofs.YtoajodjcmeijgaaGreat
open Go.RowKit Go.Ecal
/-- What is still to be read, and is it bad? -/
structure Rd where
  l : List UInt8
  bad : Bool
def rdShort (r : Rd) (n : Int) : Bool := r.bad || decide ((r.l.length : Int) < n)
def rdTake (r : Rd) (n : Int) : List UInt8 := if rdShort r n then [] else r.l.take n.toNat
def rdTakeS (r : Rd) (n : Int) : Rd := if rdShort r n then ⟨r.l, true⟩ else ⟨r.l.drop n.toNat, r.bad⟩
/-- A number, the highest byte first. -/
def beN (l : List UInt8) : Int := l.foldl (fun n c => 256 * n + (c.toNat : Int)) 0
def rdGet (r : Rd) (n : Int) : Int := beN (rdTake r n)
/-- A number of n bytes, from lo to hi: what is left behind it. -/
def rdMid (r : Rd) (n lo hi : Int) : Rd := ⟨(rdTakeS r n).l, (rdTakeS r n).bad || decide (rdGet r n < lo) || decide (hi < rdGet r n)⟩
abbrev rdNumS (r : Rd) (lo hi : Int) : Rd := rdMid r 6 lo hi
def rdNum (r : Rd) (lo hi : Int) : Int := if (rdNumS r lo hi).bad then 0 else rdGet r 6
def rdTxt (r : Rd) (lo hi : Int) : List UInt8 := if (rdMid r 2 lo hi).bad then [] else rdTake (rdMid r 2 lo hi) (rdGet r 2)
def rdTxtS (r : Rd) (lo hi : Int) : Rd := if (rdMid r 2 lo hi).bad then rdMid r 2 lo hi else rdTakeS (rdMid r 2 lo hi) (rdGet r 2)
def rdEnd (r : Rd) : Bool := !r.bad && decide ((r.l.length : Int) = 0)
theorem beN_app (l : List UInt8) (c : UInt8) : beN (l ++ [c]) = 256 * beN l + (c.toNat : Int) := by simp [beN]
theorem beN_step {l : List UInt8} {j q : Nat} {c : UInt8} (h : (q : Int) = beN (l.take j)) (hc : l[j]? = some c) : ((q * 256 + c.toNat : Nat) : Int) = beN (l.take (j + 1)) := by
  rw [List.take_add_one, hc]; simp only [Option.toList_some]; rw [beN_app, ← h]; omega
theorem beN_from (l : List UInt8) : ∀ a : Nat, ∃ q : Nat, l.foldl (fun n c => 256 * n + (c.toNat : Int)) (a : Int) = (q : Int) ∧ q + 1 ≤ (a + 1) * 256 ^ l.length := by
  induction l with
  | nil => exact fun a => ⟨a, rfl, by simp⟩
  | cons c l ih =>
    intro a
    obtain ⟨q, h1, h2⟩ := ih (256 * a + c.toNat)
    refine ⟨q, by simpa using h1, Nat.le_trans h2 ?_⟩
    rw [List.length_cons, Nat.pow_succ, Nat.mul_comm (256 ^ l.length) 256, ← Nat.mul_assoc]
    exact Nat.mul_le_mul_right _ (by have := c.toNat_lt; omega)
theorem beN_nn (l : List UInt8) : 0 ≤ beN l ∧ beN l < ((256 ^ l.length : Nat) : Int) := by
  obtain ⟨q, h1, h2⟩ := beN_from l 0
  have h3 : beN l = (q : Int) := h1
  rw [h3]; simp at h2; omega
theorem rdTake_len {r : Rd} {n : Int} (hn : 0 ≤ n) : (rdTake r n).length ≤ n.toNat := by unfold rdTake; split <;> simp; omega
theorem rdGet2 (r : Rd) : 0 ≤ rdGet r 2 ∧ rdGet r 2 < 65536 := by
  obtain ⟨h1, h2⟩ := beN_nn (rdTake r 2)
  have h3 : (rdTake r 2).length ≤ 2 := rdTake_len (by decide)
  have h4 : 256 ^ (rdTake r 2).length ≤ 256 ^ 2 := Nat.pow_le_pow_right (by decide) h3
  rw [rdGet]; exact ⟨h1, by omega⟩
theorem rdGet6 (r : Rd) : 0 ≤ rdGet r 6 ∧ rdGet r 6 < 281474976710656 := by
  obtain ⟨h1, h2⟩ := beN_nn (rdTake r 6)
  have h3 : (rdTake r 6).length ≤ 6 := rdTake_len (by decide)
  have h4 : 256 ^ (rdTake r 6).length ≤ 256 ^ 6 := Nat.pow_le_pow_right (by decide) h3
  rw [rdGet]; exact ⟨h1, by omega⟩
theorem rdNum_rng (r : Rd) (lo : Int) {hi : Int} (h : 0 ≤ hi) : 0 ≤ rdNum r lo hi ∧ rdNum r lo hi ≤ hi := by
  unfold rdNum
  split
  · omega
  · rename_i hb
    have h1 := rdGet6 r
    simp only [rdMid, Bool.or_eq_true, not_or, decide_eq_true_eq] at hb
    omega
theorem rdTxt_len (r : Rd) (lo hi : Int) : ((rdTxt r lo hi).length : Int) ≤ hi ∨ rdTxt r lo hi = [] := by
  unfold rdTxt
  split
  · exact .inr rfl
  · rename_i hb
    have h1 := rdGet2 r
    have h2 : (rdTake (rdMid r 2 lo hi) (rdGet r 2)).length ≤ (rdGet r 2).toNat := rdTake_len h1.1
    simp only [rdMid, Bool.or_eq_true, not_or, decide_eq_true_eq] at hb
    simp only [rdMid] at h2 ⊢
    left; omega
/-- A reader in the memory. -/
def RdP (p : Value) (r : Rd) : HP := .ex fun b => .ex fun v => Sep [.prop (p = ptr b ∧ v.oneCell' = true), .fact ⟨fun I => RoB I v r.l, fun k h => h.up k⟩, Blk b 122 [v, .bool r.bad]]
theorem RdP.opn {w : World} {I : Gh} {R : List HP} {p : Value} {r : Rd} (S : Sat w I (RdP p r :: R)) : ∃ b v, p = ptr b ∧ v.oneCell' = true ∧ RoB I v r.l ∧ Sat w I (Blk b 122 [v, .bool r.bad] :: R) := by
  obtain ⟨b, S⟩ := S.unex; obtain ⟨v, S⟩ := S.unex
  obtain ⟨⟨h1, h2⟩, S⟩ := S.split.unprop
  obtain ⟨h3, S⟩ := S.unfact
  exact ⟨b, v, h1, h2, h3, S⟩
theorem RdP.cls {w : World} {I : Gh} {R : List HP} {b : Nat} {v : Value} {r : Rd} {l : List UInt8} {t : Bool} (ho : v.oneCell' = true) (hA : RoB I v l) (hr : (⟨l, t⟩ : Rd) = r) (S : Sat w I (Blk b 122 [v, .bool t] :: R)) : Sat w I (RdP (ptr b) r :: R) := by
  subst hr; exact Sat.toex b (Sat.toex v (Sat.join [_, _, _] ((S.tofact hA).toprop ⟨rfl, ho⟩)))
theorem RdP.ptr {w : World} {I : Gh} {R : List HP} {p : Value} {r : Rd} (S : Sat w I (RdP p r :: R)) : ∃ b, p = Go.Ecal.ptr b := let ⟨b, _, h, _⟩ := RdP.opn S; ⟨b, h⟩
theorem RdP.at {w : World} {I : Gh} {R : List HP} {b : Nat} {r : Rd} (S : Sat w I (RdP (Go.Ecal.ptr b) r :: R)) : ∃ v, v.oneCell' = true ∧ RoB I v r.l ∧ Sat w I (Blk b 122 [v, .bool r.bad] :: R) := by
  obtain ⟨b', v, h, h1, h2, S⟩ := RdP.opn S
  have : b = b' := by simpa [Go.Ecal.ptr] using h
  subst this; exact ⟨v, h1, h2, S⟩
end Go.Proofs.YtoajodjcmeijgaaGreat
