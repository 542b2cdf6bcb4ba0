import Derived.Test.YtmalblpdkpjbcaaGreatQReplayReadersReader
set_option linter.unusedVariables false
set_option linter.unusedSimpArgs false
namespace Go.Proofs.YtmalblpdkpjbcaaGreat
open Go.RowKit Go.Ecal
structure WrapT where
  who : Int
  box : List UInt8
  deriving DecidableEq
structure Entry where
  kind : Int
  writer : Int
  seq : Int
  name : List UInt8
  value : List UInt8
  who : Int
  rights : Int
  epoch : Int
  wraps : List WrapT
  deriving DecidableEq
def within (n lo hi : Int) : Bool := decide (lo ≤ n) && decide (n ≤ hi)
theorem within_iff {n lo hi : Int} : within n lo hi = true ↔ lo ≤ n ∧ n ≤ hi := by simp [within]
/-- Each goes to a member, behind the one ahead of it. -/
def wrapsGo : Int → List WrapT → Bool
  | _, [] => true
  | p, w :: l => within w.who 1 16 && decide (w.box.length = 48) && decide (p < w.who) && wrapsGo w.who l
def wrapsOk (l : List WrapT) : Bool := wrapsGo 0 l && decide (l.length ≤ 16)
/-- An entry with just what its kind may have. -/
def Entry.bare (e : Entry) : Entry := ⟨e.kind, e.writer, e.seq, if e.kind = 1 ∨ e.kind = 2 then e.name else [], if e.kind = 1 then e.value else [], if e.kind = 3 ∨ e.kind = 4 then e.who else 0, if e.kind = 3 then e.rights else 0, if e.kind = 5 then e.epoch else 0, if e.kind = 5 then e.wraps else []⟩
def Entry.body (e : Entry) : Bool :=
  if e.kind = 1 ∨ e.kind = 2 then within e.name.length 1 64 && decide ((e.value.length : Int) ≤ 512)
  else if e.kind = 3 then within e.who 1 16 && within e.rights 1 7
  else if e.kind = 4 then within e.who 1 16
  else within e.epoch 1 16 && wrapsOk e.wraps
def Entry.head (e : Entry) : Bool := within e.kind 1 5 && within e.writer 1 16 && within e.seq 1 1099511627776
def Entry.right (e : Entry) : Bool := e.head && decide (e = e.bare) && e.body
def wrapParts (l : List WrapT) : List Any := (l.map fun w => [Any.int w.who, Any.bytes w.box]).flatten
def Entry.parts (e : Entry) : List Any := [Any.int e.kind, Any.int e.writer, Any.int e.seq] ++
  (if e.kind = 1 then [Any.bytes e.name, Any.bytes e.value] else if e.kind = 2 then [Any.bytes e.name] else if e.kind = 3 then [Any.int e.who, Any.int e.rights] else if e.kind = 4 then [Any.int e.who]
   else if e.kind = 5 then [Any.int e.epoch, Any.int e.wraps.length] ++ wrapParts e.wraps else [])
def Entry.encE (e : Entry) : Int := if e.right then putE e.parts else 10
def Entry.encB (e : Entry) : List UInt8 := if e.right then putB e.parts else []
def entry0 : Entry := ⟨0, 0, 0, [], [], 0, 0, 0, []⟩
/-- Wraps that are read: so many, as long as it isn't bad. -/
def rdWraps : Nat → Rd → List WrapT → List WrapT × Rd
  | 0, r, a => (a, r)
  | n + 1, r, a => if r.bad then (a, r) else rdWraps n (rdTxtS (rdNumS r 1 16) 48 48) (a ++ [⟨rdNum r 1 16, rdTxt (rdNumS r 1 16) 48 48⟩])
def rdBody (k w q : Int) (r : Rd) : Entry × Rd :=
  if k = 1 then (⟨k, w, q, rdTxt r 1 64, rdTxt (rdTxtS r 1 64) 0 512, 0, 0, 0, []⟩, rdTxtS (rdTxtS r 1 64) 0 512)
  else if k = 2 then (⟨k, w, q, rdTxt r 1 64, [], 0, 0, 0, []⟩, rdTxtS r 1 64)
  else if k = 3 then (⟨k, w, q, [], [], rdNum r 1 16, rdNum (rdNumS r 1 16) 1 7, 0, []⟩, rdNumS (rdNumS r 1 16) 1 7)
  else if k = 4 then (⟨k, w, q, [], [], rdNum r 1 16, 0, 0, []⟩, rdNumS r 1 16)
  else if k = 5 then
    let x := rdWraps (rdNum (rdNumS r 1 16) 0 16).toNat (rdNumS (rdNumS r 1 16) 0 16) []
    (⟨k, w, q, [], [], 0, 0, rdNum r 1 16, x.1⟩, x.2)
  else (⟨k, w, q, [], [], 0, 0, 0, []⟩, r)
def rdEntry (r : Rd) : Entry × Rd := rdBody (rdNum r 1 5) (rdNum (rdNumS r 1 5) 1 16) (rdNum (rdNumS (rdNumS r 1 5) 1 16) 1 1099511627776) (rdNumS (rdNumS (rdNumS r 1 5) 1 16) 1 1099511627776)
def decOk (b : List UInt8) : Bool := rdEnd (rdEntry ⟨b, false⟩).2 && (rdEntry ⟨b, false⟩).1.right
def decE (b : List UInt8) : Int := if decOk b then 0 else 10
def decV (b : List UInt8) : Entry := if decOk b then (rdEntry ⟨b, false⟩).1 else entry0
theorem wrap_eq {x y : WrapT} : x = y ↔ x.who = y.who ∧ x.box = y.box := by cases x; cases y; simp
theorem entry_eq {a b : Entry} : a = b ↔ a.kind = b.kind ∧ a.writer = b.writer ∧ a.seq = b.seq ∧ a.name = b.name ∧ a.value = b.value ∧ a.who = b.who ∧ a.rights = b.rights ∧ a.epoch = b.epoch ∧ a.wraps = b.wraps := by cases a; cases b; simp
/-- The first of some that doesn't hold. -/
theorem first9 (p1 p2 p3 p4 p5 p6 p7 p8 p9 : Prop) : ¬ p1 ∨ (p1 ∧ ¬ p2) ∨ (p1 ∧ p2 ∧ ¬ p3) ∨ (p1 ∧ p2 ∧ p3 ∧ ¬ p4) ∨ (p1 ∧ p2 ∧ p3 ∧ p4 ∧ ¬ p5) ∨ (p1 ∧ p2 ∧ p3 ∧ p4 ∧ p5 ∧ ¬ p6) ∨ (p1 ∧ p2 ∧ p3 ∧ p4 ∧ p5 ∧ p6 ∧ ¬ p7) ∨ (p1 ∧ p2 ∧ p3 ∧ p4 ∧ p5 ∧ p6 ∧ p7 ∧ ¬ p8) ∨ (p1 ∧ p2 ∧ p3 ∧ p4 ∧ p5 ∧ p6 ∧ p7 ∧ p8 ∧ ¬ p9) ∨ (p1 ∧ p2 ∧ p3 ∧ p4 ∧ p5 ∧ p6 ∧ p7 ∧ p8 ∧ p9) := by
  by_cases h1 : p1 <;> simp only [h1, not_true, not_false_eq_true, true_and, false_and, false_or, true_or, or_false, or_true]
  by_cases h2 : p2 <;> simp only [h2, not_true, not_false_eq_true, true_and, false_and, false_or, true_or, or_false, or_true]
  by_cases h3 : p3 <;> simp only [h3, not_true, not_false_eq_true, true_and, false_and, false_or, true_or, or_false, or_true]
  by_cases h4 : p4 <;> simp only [h4, not_true, not_false_eq_true, true_and, false_and, false_or, true_or, or_false, or_true]
  by_cases h5 : p5 <;> simp only [h5, not_true, not_false_eq_true, true_and, false_and, false_or, true_or, or_false, or_true]
  by_cases h6 : p6 <;> simp only [h6, not_true, not_false_eq_true, true_and, false_and, false_or, true_or, or_false, or_true]
  by_cases h7 : p7 <;> simp only [h7, not_true, not_false_eq_true, true_and, false_and, false_or, true_or, or_false, or_true]
  by_cases h8 : p8 <;> simp only [h8, not_true, not_false_eq_true, true_and, false_and, false_or, true_or, or_false, or_true]
  by_cases h9 : p9 <;> simp only [h9, not_true, not_false_eq_true, true_and, false_and, false_or, true_or, or_false, or_true]
theorem first2 (p1 p2 : Prop) : ¬ p1 ∨ (p1 ∧ ¬ p2) ∨ (p1 ∧ p2) := by by_cases h1 : p1 <;> by_cases h2 : p2 <;> simp [h1, h2]
theorem first4 (p1 p2 p3 p4 : Prop) : ¬ p1 ∨ (p1 ∧ ¬ p2) ∨ (p1 ∧ p2 ∧ ¬ p3) ∨ (p1 ∧ p2 ∧ p3 ∧ ¬ p4) ∨ (p1 ∧ p2 ∧ p3 ∧ p4) := by
  by_cases h1 : p1 <;> by_cases h2 : p2 <;> by_cases h3 : p3 <;> by_cases h4 : p4 <;> simp [h1, h2, h3, h4]
/-- The member of the one ahead. -/
def prevW (l : List WrapT) (j : Nat) : Int := if j = 0 then 0 else ((l[j - 1]?).map WrapT.who).getD 0
theorem prevW_eq {l : List WrapT} {j : Nat} {x : Int} {p : WrapT} (hp : l[x.toNat]? = some p) (hj : j ≠ 0) (hx : x = (j : Int) - 1) : prevW l j = p.who := by
  rw [prevW, if_neg hj, show j - 1 = x.toNat by omega, hp]; rfl
theorem wraps_step {l : List WrapT} {j : Nat} {a : WrapT} (ha : l[j]? = some a) (h : wrapsGo 0 l = wrapsGo (prevW l j) (l.drop j)) (h1 : within a.who 1 16 = true) (h2 : a.box.length = 48) (h3 : prevW l j < a.who) : wrapsGo 0 l = wrapsGo (prevW l (j + 1)) (l.drop (j + 1)) := by
  have hd : l.drop j = a :: l.drop (j + 1) := by
    obtain ⟨hj, e⟩ := List.getElem?_eq_some_iff.1 ha
    rw [List.drop_eq_getElem_cons hj, e]
  have hp : prevW l (j + 1) = a.who := by rw [prevW, if_neg (by omega), show j + 1 - 1 = j by omega, ha]; rfl
  rw [h, hd, hp]; simp [wrapsGo, h1, h2, h3]
theorem wraps_stop {l : List WrapT} {j : Nat} {a : WrapT} (ha : l[j]? = some a) (h : wrapsGo 0 l = wrapsGo (prevW l j) (l.drop j)) (hn : within a.who 1 16 = false ∨ ¬ a.box.length = 48 ∨ ¬ prevW l j < a.who) : wrapsOk l = false := by
  have hd : l.drop j = a :: l.drop (j + 1) := by
    obtain ⟨hj, e⟩ := List.getElem?_eq_some_iff.1 ha
    rw [List.drop_eq_getElem_cons hj, e]
  rw [wrapsOk, h, hd]
  rcases hn with h | h | h <;> simp [wrapsGo, h]
abbrev baseW (e : Entry) : List Any := [Any.int e.kind, Any.int e.writer, Any.int e.seq] ++ [Any.int e.epoch, Any.int e.wraps.length]
theorem wp_step {b : List Any} {l : List WrapT} {j : Nat} {a : WrapT} (ha : l[j]? = some a) : (b ++ wrapParts (l.take j)) ++ [Any.int a.who, Any.bytes a.box] = b ++ wrapParts (l.take (j + 1)) := by
  rw [List.take_add_one, ha, List.append_assoc]; simp [wrapParts]
theorem wp_len (l : List WrapT) : (wrapParts l).length = 2 * l.length := by
  induction l with
  | nil => rfl
  | cons a l ih => simp only [wrapParts, List.map_cons, List.flatten_cons, List.length_append, List.length_cons, List.length_nil] at ih ⊢; omega
theorem right_kind {e : Entry} (h : e.right = true) : 1 ≤ e.kind ∧ e.kind ≤ 5 := by
  simp only [Entry.right, Entry.head, Bool.and_eq_true] at h; exact within_iff.1 h.1.1.1.1
theorem right_wraps {e : Entry} (h : e.right = true) : e.wraps.length ≤ 16 := by
  have hb : e = e.bare := by simp only [Entry.right, Bool.and_eq_true, decide_eq_true_eq] at h; exact h.1.2
  by_cases hk : e.kind = 5
  · simp only [Entry.right, Entry.body, Bool.and_eq_true] at h
    have h2 := h.2
    rw [if_neg (by omega), if_neg (by omega), if_neg (by omega)] at h2
    simp only [wrapsOk, Bool.and_eq_true, decide_eq_true_eq] at h2; exact h2.2.2
  · have : e.wraps = [] := by rw [hb]; simp [Entry.bare, hk]
    simp [this]
theorem parts_len {e : Entry} (h : e.right = true) : e.parts.length ≤ 40 := by
  have h1 := right_wraps h
  unfold Entry.parts
  repeat' split
  all_goals (simp [wp_len]; try omega)
theorem rdw_step {n : Nat} {r : Rd} {ws : List WrapT} (hn : 0 < n) (hb : r.bad = false) : rdWraps n r ws = rdWraps (n - 1) (rdTxtS (rdNumS r 1 16) 48 48) (ws ++ [⟨rdNum r 1 16, rdTxt (rdNumS r 1 16) 48 48⟩]) := by
  obtain ⟨m, rfl⟩ : ∃ m, n = m + 1 := ⟨n - 1, by omega⟩
  rw [rdWraps, if_neg (by rw [hb]; decide)]; rfl
theorem rdw_bad {n : Nat} {r : Rd} {ws : List WrapT} (hb : r.bad = true) : rdWraps n r ws = (ws, r) := by
  cases n with
  | zero => rfl
  | succ n => rw [rdWraps, if_pos hb]
end Go.Proofs.YtmalblpdkpjbcaaGreat
