import Derived.Test.YtoajodjcmeijgaaGreatQSealedPlaysSigns
set_option linter.unusedVariables false
set_option linter.unusedSimpArgs false
namespace Go.Proofs.YtoajodjcmeijgaaGreat
open Go.RowKit Go.Ecal
def thR : Rep Thing := ⟨5, fun I cs a => ∃ v1 v2 v3 v4, cs = [.int .i64 (a.sort.toNat : Int), v1, v2, v3, v4] ∧ (v1.oneCell' = true ∧ RoB I v1 a.key) ∧ (v2.oneCell' = true ∧ RoB I v2 a.nonce) ∧ (v3.oneCell' = true ∧ RoB I v3 a.other) ∧ (v4.oneCell' = true ∧ RoB I v4 a.text),
  fun k h => by obtain ⟨v1, v2, v3, v4, rfl, ⟨o1, h1⟩, ⟨o2, h2⟩, ⟨o3, h3⟩, ⟨o4, h4⟩⟩ := h; exact ⟨v1, v2, v3, v4, rfl, ⟨o1, h1.up k⟩, ⟨o2, h2.up k⟩, ⟨o3, h3.up k⟩, ⟨o4, h4.up k⟩⟩,
  fun h => by obtain ⟨v1, v2, v3, v4, rfl, _⟩ := h; rfl,
  fun h u hu => by
    obtain ⟨v1, v2, v3, v4, rfl, ⟨o1, h1⟩, ⟨o2, h2⟩, ⟨o3, h3⟩, ⟨o4, h4⟩⟩ := h
    simp only [List.mem_cons, List.not_mem_nil, or_false] at hu
    rcases hu with rfl | rfl | rfl | rfl | rfl <;> first | rfl | assumption⟩
/-- p is the document's suite with these things. -/
def RefT (p : Value) (L : List Thing) : HP := .ex fun b => .ex fun lv => Sep [.prop (p = ptr b), Blk b 30 [lv], OwnX 78 thR lv L]
theorem RefT.opn {w : World} {I : Gh} {R : List HP} {p : Value} {L : List Thing} (S : Sat w I (RefT p L :: R)) : ∃ b lv, p = ptr b ∧ Sat w I (Blk b 30 [lv] :: OwnX 78 thR lv L :: R) := by
  obtain ⟨b, S⟩ := S.unex; obtain ⟨lv, S⟩ := S.unex
  obtain ⟨h1, S⟩ := S.split.unprop
  exact ⟨b, lv, h1, S⟩
theorem RefT.cls {w : World} {I : Gh} {R : List HP} {L : List Thing} {b : Nat} {lv : Value} (S : Sat w I (Blk b 30 [lv] :: OwnX 78 thR lv L :: R)) : Sat w I (RefT (ptr b) L :: R) :=
  Sat.toex b (Sat.toex lv (Sat.join [_, _, _] (S.toprop rfl)))
theorem bof_byte (c : UInt8) : bof (c.toNat : Int) = c := by
  have := c.toNat_lt
  simp only [bof]
  apply UInt8.toNat_inj.1
  simp; omega
theorem sign_ref (c : UInt8) (n : Int) : (((List.replicate 32 (0 : UInt8)).take (32 - 8) ++ be8 n).set 0 83).set 1 (bof (c.toNat : Int)) = signOf c n := by rw [bof_byte]; rfl
theorem box_ref (n : Int) {k m : Nat} (hk : k = m + 16) : ((List.replicate k (0 : UInt8)).take (k - 8) ++ be8 n).set 0 66 = boxOf n m := by
  subst hk
  rw [List.take_replicate, show min (m + 16 - 8) (m + 16) = (m + 7) + 1 by omega, List.replicate_succ, List.cons_append, List.set_cons_zero]; rfl
/-- Those that are found again are of a key and a text alone. -/
def Plain (L : List Thing) : Prop := ∀ u ∈ L, u.once = true → u.nonce = [] ∧ u.other = []
theorem Plain.snoc {L : List Thing} {t : Thing} (h : Plain L) (ht : t.once = true → t.nonce = [] ∧ t.other = []) : Plain (L ++ [t]) := by
  intro u hu; rcases List.mem_append.1 hu with h1 | h1
  · exact h u h1
  · simp only [List.mem_singleton] at h1; rw [h1]; exact ht
theorem Plain.onceL {L : List Thing} {t : Thing} (h : Plain L) (ht : t.once = true → t.nonce = [] ∧ t.other = []) : Plain (onceL t L) := by
  cases hi : idx t L with
  | none => simp only [Go.Proofs.YtoajodjcmeijgaaGreat.onceL, hi]; exact h.snoc ht
  | some i => simpa [Go.Proofs.YtoajodjcmeijgaaGreat.onceL, hi] using h
theorem Plain.nil : Plain [] := fun u h => by cases h
/-- Not among the first i. -/
def Not (t : Thing) (L : List Thing) (i : Nat) : Prop := ∀ (k : Nat) (u : Thing), k < i → L[k]? = some u → u ≠ t
theorem Not.zero {t : Thing} {L : List Thing} : Not t L 0 := fun k u h => absurd h (Nat.not_lt_zero _)
theorem Not.next {t a : Thing} {L : List Thing} {i : Nat} (h : Not t L i) (ha : L[i]? = some a) (hn : a ≠ t) : Not t L (i + 1) := by
  intro k u hk hu
  by_cases h1 : k < i
  · exact h k u h1 hu
  · have : k = i := by omega
    subst this; rw [ha] at hu; cases hu; exact hn
theorem idx_here {t : Thing} {L : List Thing} {i : Nat} (h : Not t L i) (ha : L[i]? = some t) : idx t L = some i := by
  refine List.findIdx?_eq_some_iff_getElem.2 ⟨(List.getElem?_eq_some_iff.1 ha).1, ?_, fun j hj => ?_⟩
  · have := (List.getElem?_eq_some_iff.1 ha).2; simp [this]
  · have hjl : j < L.length := by have := (List.getElem?_eq_some_iff.1 ha).1; omega
    have := h j L[j] hj (List.getElem?_eq_getElem hjl)
    simpa using this
theorem idx_nowhere {t : Thing} {L : List Thing} (h : Not t L L.length) : idx t L = none := by
  cases hi : idx t L with
  | none => rfl
  | some i => have := idx_some hi; exact absurd rfl (h i t this.2 this.1)
theorem same_thing {L : List Thing} {a t : Thing} (hP : Plain L) (ha : a ∈ L) (ho : t.once = true) (hn : t.nonce = [] ∧ t.other = []) : ((a.sort.toNat : Int) = (t.sort.toNat : Int) ∧ a.key = t.key ∧ a.text = t.text) ↔ a = t := by
  constructor
  · rintro ⟨h1, h2, h3⟩
    have hs : a.sort = t.sort := UInt8.toNat_inj.1 (by omega)
    have h4 := hP a ha (by unfold Thing.once at ho ⊢; rw [hs]; exact ho)
    cases a; cases t; simp_all
  · rintro rfl; exact ⟨rfl, rfl, rfl⟩
def eightL (n : Int) (m j : Nat) : List UInt8 := List.replicate (m - j) (0 : UInt8) ++ (be8 n).drop (8 - j)
theorem eight_zero (n : Int) (m : Nat) : List.replicate m (0 : UInt8) = eightL n m 0 := by
  rw [eightL, show (be8 n).drop (8 - 0) = [] from rfl, List.append_nil, Nat.sub_zero]
theorem eight_set {n : Int} {m j : Nat} (hj : j < 8) (hm : 8 ≤ m) {i : Nat} (hi : i = m - 1 - j) : (eightL n m j).set i (bof (n / 256 ^ j)) = eightL n m (j + 1) := by
  subst hi
  have e : (be8 n).drop (8 - (j + 1)) = bof (n / 256 ^ j) :: (be8 n).drop (8 - j) := by
    have : j = 0 ∨ j = 1 ∨ j = 2 ∨ j = 3 ∨ j = 4 ∨ j = 5 ∨ j = 6 ∨ j = 7 := by omega
    rcases this with rfl | rfl | rfl | rfl | rfl | rfl | rfl | rfl <;> first | rfl | (simp only [be8, Int.pow_zero, Int.ediv_one]; rfl)
  rw [eightL, eightL, e, show m - j = (m - 1 - j) + 1 by omega, List.replicate_succ', List.append_assoc, List.set_append_right _ _ (by simp), List.length_replicate, Nat.sub_self, show m - (j + 1) = m - 1 - j by omega]
  rfl
theorem eight_end {n : Int} {m : Nat} (hm : 8 ≤ m) : eightL n m 8 = (List.replicate m (0 : UInt8)).take (m - 8) ++ be8 n := by
  rw [eightL, List.take_replicate, show min (m - 8) m = m - 8 by omega]; rfl
theorem eight_len {n : Int} {m j : Nat} (hj : j ≤ 8) (hm : 8 ≤ m) : (eightL n m j).length = m := by simp [eightL, be8]; omega
theorem div_next (n q : Int) (j : Nat) (h : q = n / 256 ^ j) : q / 256 = n / 256 ^ (j + 1) := by
  rw [h, Int.pow_succ, Int.ediv_ediv_of_nonneg (Int.le_of_lt (Int.pow_pos (by decide)))]
def NoBox (k n o x : List UInt8) (L : List Thing) (j : Nat) : Prop := ∀ (i : Nat) (a : Thing), i < j → L[i]? = some a → ¬ (a = tBox k n o a.text ∧ boxOf ((i : Int) + 1) a.text.length = x)
theorem NoBox.zero {k n o x : List UInt8} {L : List Thing} : NoBox k n o x L 0 := fun i a h => absurd h (Nat.not_lt_zero _)
theorem NoBox.next {k n o x : List UInt8} {L : List Thing} {j : Nat} {a : Thing} (h : NoBox k n o x L j) (ha : L[j]? = some a) (hn : ¬ (a = tBox k n o a.text ∧ boxOf ((j : Int) + 1) a.text.length = x)) : NoBox k n o x L (j + 1) := by
  intro i u hi hu
  by_cases h1 : i < j
  · exact h i u h1 hu
  · have : i = j := by omega
    subst this; rw [ha] at hu; cases hu; exact hn
theorem open_fits {k n o x : List UInt8} {L : List Thing} {j : Nat} {a : Thing} (ha : L[j]? = some a) (hj : j ≤ 1000000) (h : a = tBox k n o a.text ∧ boxOf ((j : Int) + 1) a.text.length = x) : openOf L k n o x = some a.text := by
  rw [← h.2]
  refine open_box ⟨by omega, ?_⟩ (by omega)
  rw [show ((j : Int) + 1 - 1).toNat = j by omega, ha, ← h.1]
theorem open_no {k n o x : List UInt8} {L : List Thing} (h : NoBox k n o x L L.length) : openOf L k n o x = none := by
  cases e : openOf L k n o x with
  | none => rfl
  | some y =>
    exfalso
    obtain ⟨m, ⟨h1, h2⟩, h3⟩ := open_is e
    exact h _ _ (List.getElem?_eq_some_iff.1 h2).1 h2 ⟨rfl, by rw [h3, show (((m - 1).toNat : Nat) : Int) + 1 = m by omega]⟩
theorem box_thing {a : Thing} {k n o : List UInt8} : (a.sort = 66 ∧ a.key = k ∧ a.nonce = n ∧ a.other = o) ↔ a = tBox k n o a.text := by
  constructor
  · rintro ⟨h1, rfl, rfl, rfl⟩; cases a; simp_all
  · intro h; rw [h]; exact ⟨rfl, rfl, rfl, rfl⟩
theorem sort_ne {a : UInt8} (h : ¬ a = 66) : decide ((a.toNat : Int) = 66) = false := by
  rw [decide_eq_false_iff_not]; intro e; exact h (UInt8.toNat_inj.1 (by rw [show (66 : UInt8).toNat = 66 from rfl]; omega))
theorem RefT.at {w : World} {I : Gh} {R : List HP} {b : Nat} {L : List Thing} (S : Sat w I (RefT (ptr b) L :: R)) : ∃ lv, Sat w I (Blk b 30 [lv] :: OwnX 78 thR lv L :: R) := by
  obtain ⟨b', lv, h, S⟩ := RefT.opn S
  have : b = b' := by simpa using h
  subst this; exact ⟨lv, S⟩
theorem Plain.sealL {L : List Thing} {k n o x : List UInt8} (h : Plain L) : Plain (sealL L k n o x) := by
  unfold Go.Proofs.YtoajodjcmeijgaaGreat.sealL; split
  · exact h.snoc (fun h => by cases h)
  · exact h
end Go.Proofs.YtoajodjcmeijgaaGreat
