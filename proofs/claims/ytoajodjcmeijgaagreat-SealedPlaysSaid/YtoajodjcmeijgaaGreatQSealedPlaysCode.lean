import Derived.Test.YtoajodjcmeijgaaGreatProg
import Derived.Test.YtoajodjcmeijgaaGreatQSealedPlaysRep
set_option linter.unusedVariables false
set_option linter.unusedSimpArgs false
namespace Go.Proofs.YtoajodjcmeijgaaGreat
open Go.RowKit Go.Ecal
/-- A part: a number, or a text. -/
inductive Any where
  | int (n : Int)
  | bytes (l : List UInt8)
  deriving DecidableEq
def anyP (I : Gh) (cs : List Value) : Any → Prop
  | .int n => cs = [.iface 3 (.int .i64 n)] ∧ (-9223372036854775808 ≤ n ∧ n ≤ 9223372036854775807)
  | .bytes l => ∃ u, cs = [.iface 22 u] ∧ u.oneCell' = true ∧ RoB I u l
def anyR : Rep Any := ⟨1, anyP, fun {I J cs a} k h => by
    cases a with
    | int n => exact h
    | bytes l => obtain ⟨u, a, b, c⟩ := h; exact ⟨u, a, b, c.up k⟩,
  fun {I cs a} h => by
    cases a with
    | int n => rw [h.1]; rfl
    | bytes l => obtain ⟨u, a, _⟩ := h; rw [a]; rfl,
  fun {I cs a} h u hu => by
    cases a with
    | int n => rw [h.1] at hu; simp at hu; rw [hu]; rfl
    | bytes l => obtain ⟨q, a, _⟩ := h; rw [a] at hu; simp at hu; rw [hu]; rfl⟩
theorem any_open {I : Gh} {cs : List Value} {a : Any} (h : anyR.r I cs a) : ∃ u, cs = [u] ∧ u.oneCell' = true ∧ anyR.r I [u] a := by
  cases a with
  | int n => obtain ⟨rfl, r⟩ := h; exact ⟨_, rfl, rfl, rfl, r⟩
  | bytes l => obtain ⟨u, rfl, o, r⟩ := h; exact ⟨_, rfl, rfl, u, rfl, o, r⟩
/-- A number in six bytes, the highest first. -/
def be6 (n : Int) : List UInt8 := [bof (n / 1099511627776), bof (n / 4294967296), bof (n / 16777216), bof (n / 65536), bof (n / 256), bof n]
def be2 (n : Int) : List UInt8 := [bof (n / 256), bof n]
def numE (n : Int) : Int := if 0 ≤ n ∧ n ≤ 1099511627776 then 0 else 12
def numB (n : Int) : List UInt8 := if 0 ≤ n ∧ n ≤ 1099511627776 then be6 n else []
def textE (l : List UInt8) : Int := if l.length ≤ 4096 then 0 else 11
def textB (l : List UInt8) : List UInt8 := if l.length ≤ 4096 then be2 (l.length : Int) ++ l else []
def partE : Any → Int
  | .int n => numE n
  | .bytes l => textE l
def partB : Any → List UInt8
  | .int n => numB n
  | .bytes l => textB l
def putE : List Any → Int
  | [] => 0
  | a :: l => if partE a = 0 then putE l else partE a
def putB (l : List Any) : List UInt8 := if putE l = 0 then (l.map partB).flatten else []
theorem be6_len (n : Int) : (be6 n).length = 6 := rfl
theorem partB_le (a : Any) : (partB a).length ≤ 4098 := by
  cases a with
  | int n => simp only [partB, numB]; split <;> simp [be6]
  | bytes l => simp only [partB, textB]; split <;> simp [be2]; omega
theorem putE_iff {l : List Any} : putE l = 0 ↔ ∀ a ∈ l, partE a = 0 := by
  induction l with
  | nil => simp [putE]
  | cons a r ih =>
    simp only [putE, List.mem_cons, forall_eq_or_imp]
    split
    · rename_i h; rw [ih]; simp [h]
    · rename_i h; simp [h]
/-- The first j are right. -/
def PutTo (l : List Any) (j : Nat) : Prop := ∀ a ∈ l.take j, partE a = 0
theorem PutTo.zero {l : List Any} : PutTo l 0 := by intro a h; simp at h
theorem PutTo.next {l : List Any} {j : Nat} {a : Any} (h : PutTo l j) (ha : l[j]? = some a) (h0 : partE a = 0) : PutTo l (j + 1) := by
  intro u hu
  rw [List.take_add_one, ha] at hu
  rcases List.mem_append.1 hu with h1 | h1
  · exact h u h1
  · simp at h1; rw [h1]; exact h0
theorem PutTo.stop {l : List Any} {j : Nat} {a : Any} (h : PutTo l j) (ha : l[j]? = some a) (h0 : ¬ partE a = 0) : putE l = partE a := by
  induction l generalizing j with
  | nil => simp at ha
  | cons b r ih =>
    cases j with
    | zero => simp at ha; subst ha; simp [putE, h0]
    | succ j =>
      have hb : partE b = 0 := h b (by simp)
      simp only [putE, hb, if_true]
      exact ih (j := j) (fun u hu => h u (by simp [hu])) (by simpa using ha)
theorem PutTo.all {l : List Any} (h : PutTo l l.length) : putE l = 0 := putE_iff.2 (by simpa [PutTo] using h)
theorem put_step {l : List Any} {j : Nat} {a : Any} (ha : l[j]? = some a) : ((l.take j).map partB).flatten ++ partB a = ((l.take (j + 1)).map partB).flatten := by
  rw [List.take_add_one, ha]; simp
theorem put_le {l : List Any} (j : Nat) : ((l.take j).map partB).flatten.length ≤ 4098 * j := by
  induction j with
  | zero => simp
  | succ j ih =>
    cases ha : l[j]? with
    | none => rw [List.take_add_one, ha]; simp at ih ⊢; omega
    | some a => rw [← put_step ha, List.length_append]; have := partB_le a; omega
theorem putB_ok {l : List Any} (h : putE l = 0) : putB l = (l.map partB).flatten := by simp [putB, h]
theorem numE_ok {n : Int} (h : 0 ≤ n ∧ n ≤ 1099511627776) : numE n = 0 := by simp [numE, h]
theorem numB_ok {n : Int} (h : 0 ≤ n ∧ n ≤ 1099511627776) : numB n = be6 n := by simp [numB, h]
theorem put1 {n : Int} (h : 0 ≤ n ∧ n ≤ 1099511627776) : putB [.int n] = be6 n ∧ putE [.int n] = 0 := by
  simp [putB, putE, partE, partB, numE_ok h, numB_ok h]
theorem put2 {n m : Int} (h : 0 ≤ n ∧ n ≤ 1099511627776) (k : 0 ≤ m ∧ m ≤ 1099511627776) : putB [.int n, .int m] = be6 n ++ be6 m ∧ putE [.int n, .int m] = 0 := by
  simp [putB, putE, partE, partB, numE_ok h, numB_ok h, numE_ok k, numB_ok k]
end Go.Proofs.YtoajodjcmeijgaaGreat
