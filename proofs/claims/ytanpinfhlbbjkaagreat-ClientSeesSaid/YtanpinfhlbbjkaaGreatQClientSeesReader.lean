import Derived.Test.YtanpinfhlbbjkaaGreatProg
import Derived.Test.YtanpinfhlbbjkaaGreatQClientSeesRep
set_option linter.unusedVariables false
set_option linter.unusedSimpArgs false
namespace Go.Proofs.YtanpinfhlbbjkaaGreat
open Go.RowKit Go.Ecal
/-- A part: a number, or a text. -/
inductive Any where
  | int (n : Int)
  | bytes (l : List UInt8)
  deriving DecidableEq
def anyP (I : Gh) (cs : List Value) : Any → Prop
  | .int n => cs = [.iface 3 (.int .i64 n)] ∧ (-9223372036854775808 ≤ n ∧ n ≤ 9223372036854775807)
  | .bytes l => ∃ u, cs = [.iface 26 u] ∧ u.oneCell' = true ∧ RoB I u l
def anyR : Rep Any := ⟨1, anyP, fun {I J cs a} k h => by
    cases a with
    | int n => exact h
    | bytes l => obtain ⟨u, a, b, c⟩ := h; exact ⟨u, a, b, c.up k⟩,
  fun {I cs a} h => by
    cases a with
    | int n => rw [h.1]; rfl
    | bytes l => obtain ⟨u, a, _⟩ := h; rw [a]; rfl,
  fun {I cs a} h u hu => by
    cases a with
    | int n => rw [h.1] at hu; simp at hu; rw [hu]; rfl
    | bytes l => obtain ⟨q, a, _⟩ := h; rw [a] at hu; simp at hu; rw [hu]; rfl⟩
theorem any_open {I : Gh} {cs : List Value} {a : Any} (h : anyR.r I cs a) : ∃ u, cs = [u] ∧ u.oneCell' = true ∧ anyR.r I [u] a := by
  cases a with
  | int n => obtain ⟨rfl, r⟩ := h; exact ⟨_, rfl, rfl, rfl, r⟩
  | bytes l => obtain ⟨u, rfl, o, r⟩ := h; exact ⟨_, rfl, rfl, u, rfl, o, r⟩
/-- A number in six bytes, the highest first. -/
def be6 (n : Int) : List UInt8 := [bof (n / 1099511627776), bof (n / 4294967296), bof (n / 16777216), bof (n / 65536), bof (n / 256), bof n]
def be2 (n : Int) : List UInt8 := [bof (n / 256), bof n]
def numE (n : Int) : Int := if 0 ≤ n ∧ n ≤ 1099511627776 then 0 else 12
def numB (n : Int) : List UInt8 := if 0 ≤ n ∧ n ≤ 1099511627776 then be6 n else []
def textE (l : List UInt8) : Int := if l.length ≤ 4096 then 0 else 11
def textB (l : List UInt8) : List UInt8 := if l.length ≤ 4096 then be2 (l.length : Int) ++ l else []
def partE : Any → Int
  | .int n => numE n
  | .bytes l => textE l
def partB : Any → List UInt8
  | .int n => numB n
  | .bytes l => textB l
def putE : List Any → Int
  | [] => 0
  | a :: l => if partE a = 0 then putE l else partE a
def putB (l : List Any) : List UInt8 := if putE l = 0 then (l.map partB).flatten else []
theorem be6_len (n : Int) : (be6 n).length = 6 := rfl
theorem partB_le (a : Any) : (partB a).length ≤ 4098 := by
  cases a with
  | int n => simp only [partB, numB]; split <;> simp [be6]
  | bytes l => simp only [partB, textB]; split <;> simp [be2]; omega
theorem putE_iff {l : List Any} : putE l = 0 ↔ ∀ a ∈ l, partE a = 0 := by
  induction l with
  | nil => simp [putE]
  | cons a r ih =>
    simp only [putE, List.mem_cons, forall_eq_or_imp]
    split
    · rename_i h; rw [ih]; simp [h]
    · rename_i h; simp [h]
/-- The first j are right. -/
def PutTo (l : List Any) (j : Nat) : Prop := ∀ a ∈ l.take j, partE a = 0
theorem PutTo.zero {l : List Any} : PutTo l 0 := by intro a h; simp at h
theorem PutTo.next {l : List Any} {j : Nat} {a : Any} (h : PutTo l j) (ha : l[j]? = some a) (h0 : partE a = 0) : PutTo l (j + 1) := by
  intro u hu
  rw [List.take_add_one, ha] at hu
  rcases List.mem_append.1 hu with h1 | h1
  · exact h u h1
  · simp at h1; rw [h1]; exact h0
theorem PutTo.stop {l : List Any} {j : Nat} {a : Any} (h : PutTo l j) (ha : l[j]? = some a) (h0 : ¬ partE a = 0) : putE l = partE a := by
  induction l generalizing j with
  | nil => simp at ha
  | cons b r ih =>
    cases j with
    | zero => simp at ha; subst ha; simp [putE, h0]
    | succ j =>
      have hb : partE b = 0 := h b (by simp)
      simp only [putE, hb, if_true]
      exact ih (j := j) (fun u hu => h u (by simp [hu])) (by simpa using ha)
theorem PutTo.all {l : List Any} (h : PutTo l l.length) : putE l = 0 := putE_iff.2 (by simpa [PutTo] using h)
theorem put_step {l : List Any} {j : Nat} {a : Any} (ha : l[j]? = some a) : ((l.take j).map partB).flatten ++ partB a = ((l.take (j + 1)).map partB).flatten := by
  rw [List.take_add_one, ha]; simp
theorem put_le {l : List Any} (j : Nat) : ((l.take j).map partB).flatten.length ≤ 4098 * j := by
  induction j with
  | zero => simp
  | succ j ih =>
    cases ha : l[j]? with
    | none => rw [List.take_add_one, ha]; simp at ih ⊢; omega
    | some a => rw [← put_step ha, List.length_append]; have := partB_le a; omega
theorem putB_ok {l : List Any} (h : putE l = 0) : putB l = (l.map partB).flatten := by simp [putB, h]
theorem numE_ok {n : Int} (h : 0 ≤ n ∧ n ≤ 1099511627776) : numE n = 0 := by simp [numE, h]
theorem numB_ok {n : Int} (h : 0 ≤ n ∧ n ≤ 1099511627776) : numB n = be6 n := by simp [numB, h]
theorem put1 {n : Int} (h : 0 ≤ n ∧ n ≤ 1099511627776) : putB [.int n] = be6 n ∧ putE [.int n] = 0 := by
  simp [putB, putE, partE, partB, numE_ok h, numB_ok h]
theorem put2 {n m : Int} (h : 0 ≤ n ∧ n ≤ 1099511627776) (k : 0 ≤ m ∧ m ≤ 1099511627776) : putB [.int n, .int m] = be6 n ++ be6 m ∧ putE [.int n, .int m] = 0 := by
  simp [putB, putE, partE, partB, numE_ok h, numB_ok h, numE_ok k, numB_ok k]
end Go.Proofs.YtanpinfhlbbjkaaGreat

namespace Go.Proofs.YtanpinfhlbbjkaaGreat
open Go.RowKit Go.Ecal
/-- What is still to be read, and is it bad? -/
structure Rd where
  l : List UInt8
  bad : Bool
def rdShort (r : Rd) (n : Int) : Bool := r.bad || decide ((r.l.length : Int) < n)
def rdTake (r : Rd) (n : Int) : List UInt8 := if rdShort r n then [] else r.l.take n.toNat
def rdTakeS (r : Rd) (n : Int) : Rd := if rdShort r n then ⟨r.l, true⟩ else ⟨r.l.drop n.toNat, r.bad⟩
/-- A number, the highest byte first. -/
def beN (l : List UInt8) : Int := l.foldl (fun n c => 256 * n + (c.toNat : Int)) 0
def rdGet (r : Rd) (n : Int) : Int := beN (rdTake r n)
/-- A number of n bytes, from lo to hi: what is left behind it. -/
def rdMid (r : Rd) (n lo hi : Int) : Rd := ⟨(rdTakeS r n).l, (rdTakeS r n).bad || decide (rdGet r n < lo) || decide (hi < rdGet r n)⟩
abbrev rdNumS (r : Rd) (lo hi : Int) : Rd := rdMid r 6 lo hi
def rdNum (r : Rd) (lo hi : Int) : Int := if (rdNumS r lo hi).bad then 0 else rdGet r 6
def rdTxt (r : Rd) (lo hi : Int) : List UInt8 := if (rdMid r 2 lo hi).bad then [] else rdTake (rdMid r 2 lo hi) (rdGet r 2)
def rdTxtS (r : Rd) (lo hi : Int) : Rd := if (rdMid r 2 lo hi).bad then rdMid r 2 lo hi else rdTakeS (rdMid r 2 lo hi) (rdGet r 2)
def rdEnd (r : Rd) : Bool := !r.bad && decide ((r.l.length : Int) = 0)
theorem beN_app (l : List UInt8) (c : UInt8) : beN (l ++ [c]) = 256 * beN l + (c.toNat : Int) := by simp [beN]
theorem beN_step {l : List UInt8} {j q : Nat} {c : UInt8} (h : (q : Int) = beN (l.take j)) (hc : l[j]? = some c) : ((q * 256 + c.toNat : Nat) : Int) = beN (l.take (j + 1)) := by
  rw [List.take_add_one, hc]; simp only [Option.toList_some]; rw [beN_app, ← h]; omega
theorem beN_from (l : List UInt8) : ∀ a : Nat, ∃ q : Nat, l.foldl (fun n c => 256 * n + (c.toNat : Int)) (a : Int) = (q : Int) ∧ q + 1 ≤ (a + 1) * 256 ^ l.length := by
  induction l with
  | nil => exact fun a => ⟨a, rfl, by simp⟩
  | cons c l ih =>
    intro a
    obtain ⟨q, h1, h2⟩ := ih (256 * a + c.toNat)
    refine ⟨q, by simpa using h1, Nat.le_trans h2 ?_⟩
    rw [List.length_cons, Nat.pow_succ, Nat.mul_comm (256 ^ l.length) 256, ← Nat.mul_assoc]
    exact Nat.mul_le_mul_right _ (by have := c.toNat_lt; omega)
theorem beN_nn (l : List UInt8) : 0 ≤ beN l ∧ beN l < ((256 ^ l.length : Nat) : Int) := by
  obtain ⟨q, h1, h2⟩ := beN_from l 0
  have h3 : beN l = (q : Int) := h1
  rw [h3]; simp at h2; omega
theorem rdTake_len {r : Rd} {n : Int} (hn : 0 ≤ n) : (rdTake r n).length ≤ n.toNat := by unfold rdTake; split <;> simp; omega
theorem rdGet2 (r : Rd) : 0 ≤ rdGet r 2 ∧ rdGet r 2 < 65536 := by
  obtain ⟨h1, h2⟩ := beN_nn (rdTake r 2)
  have h3 : (rdTake r 2).length ≤ 2 := rdTake_len (by decide)
  have h4 : 256 ^ (rdTake r 2).length ≤ 256 ^ 2 := Nat.pow_le_pow_right (by decide) h3
  rw [rdGet]; exact ⟨h1, by omega⟩
theorem rdGet6 (r : Rd) : 0 ≤ rdGet r 6 ∧ rdGet r 6 < 281474976710656 := by
  obtain ⟨h1, h2⟩ := beN_nn (rdTake r 6)
  have h3 : (rdTake r 6).length ≤ 6 := rdTake_len (by decide)
  have h4 : 256 ^ (rdTake r 6).length ≤ 256 ^ 6 := Nat.pow_le_pow_right (by decide) h3
  rw [rdGet]; exact ⟨h1, by omega⟩
theorem rdNum_rng (r : Rd) (lo : Int) {hi : Int} (h : 0 ≤ hi) : 0 ≤ rdNum r lo hi ∧ rdNum r lo hi ≤ hi := by
  unfold rdNum
  split
  · omega
  · rename_i hb
    have h1 := rdGet6 r
    simp only [rdMid, Bool.or_eq_true, not_or, decide_eq_true_eq] at hb
    omega
theorem rdTxt_len (r : Rd) (lo hi : Int) : ((rdTxt r lo hi).length : Int) ≤ hi ∨ rdTxt r lo hi = [] := by
  unfold rdTxt
  split
  · exact .inr rfl
  · rename_i hb
    have h1 := rdGet2 r
    have h2 : (rdTake (rdMid r 2 lo hi) (rdGet r 2)).length ≤ (rdGet r 2).toNat := rdTake_len h1.1
    simp only [rdMid, Bool.or_eq_true, not_or, decide_eq_true_eq] at hb
    simp only [rdMid] at h2 ⊢
    left; omega
/-- A reader in the memory. -/
def RdP (p : Value) (r : Rd) : HP := .ex fun b => .ex fun v => Sep [.prop (p = ptr b ∧ v.oneCell' = true), .fact ⟨fun I => RoB I v r.l, fun k h => h.up k⟩, Blk b 223 [v, .bool r.bad]]
theorem RdP.opn {w : World} {I : Gh} {R : List HP} {p : Value} {r : Rd} (S : Sat w I (RdP p r :: R)) : ∃ b v, p = ptr b ∧ v.oneCell' = true ∧ RoB I v r.l ∧ Sat w I (Blk b 223 [v, .bool r.bad] :: R) := by
  obtain ⟨b, S⟩ := S.unex; obtain ⟨v, S⟩ := S.unex
  obtain ⟨⟨h1, h2⟩, S⟩ := S.split.unprop
  obtain ⟨h3, S⟩ := S.unfact
  exact ⟨b, v, h1, h2, h3, S⟩
theorem RdP.cls {w : World} {I : Gh} {R : List HP} {b : Nat} {v : Value} {r : Rd} {l : List UInt8} {t : Bool} (ho : v.oneCell' = true) (hA : RoB I v l) (hr : (⟨l, t⟩ : Rd) = r) (S : Sat w I (Blk b 223 [v, .bool t] :: R)) : Sat w I (RdP (ptr b) r :: R) := by
  subst hr; exact Sat.toex b (Sat.toex v (Sat.join [_, _, _] ((S.tofact hA).toprop ⟨rfl, ho⟩)))
theorem RdP.ptr {w : World} {I : Gh} {R : List HP} {p : Value} {r : Rd} (S : Sat w I (RdP p r :: R)) : ∃ b, p = Go.Ecal.ptr b := let ⟨b, _, h, _⟩ := RdP.opn S; ⟨b, h⟩
theorem RdP.at {w : World} {I : Gh} {R : List HP} {b : Nat} {r : Rd} (S : Sat w I (RdP (Go.Ecal.ptr b) r :: R)) : ∃ v, v.oneCell' = true ∧ RoB I v r.l ∧ Sat w I (Blk b 223 [v, .bool r.bad] :: R) := by
  obtain ⟨b', v, h, h1, h2, S⟩ := RdP.opn S
  have : b = b' := by simpa [Go.Ecal.ptr] using h
  subst this; exact ⟨v, h1, h2, S⟩
end Go.Proofs.YtanpinfhlbbjkaaGreat
