import Derived.Test.YtlhaojpkejpgfaaSpec
/-
  The document's answer for layer 5: boxes.
-/
set_option linter.unusedVariables false
set_option linter.unusedSimpArgs false
namespace Go.Proofs.Ytlhaojpkejpgfaa
open Go.RowKit Go.Ecal
def padn (n : Nat) : Nat := (16 - n % 16) % 16
/-- Filled up with noughts to a multiple of 16. -/
def fil (b : List UInt8) : List UInt8 := b ++ List.replicate (padn b.length) 0
theorem fil_len (b : List UInt8) : (fil b).length = b.length + padn b.length := by simp [fil]
theorem padn_lt (n : Nat) : padn n < 16 ∧ (n + padn n) % 16 = 0 := by unfold padn; omega
theorem fil_of {b : List UInt8} {j : Nat} (hj : j ≤ padn b.length) (h : (b.length + j) % 16 = 0) : b ++ List.replicate j 0 = fil b := by
  have := padn_lt b.length
  have e : j = padn b.length := by unfold padn at *; omega
  rw [e]; rfl
/-- A number in eight bytes. -/
def e8 (n : Int) : List UInt8 := [bof n, bof (n / 256), bof (n / 65536), bof (n / 16777216), bof (n / 4294967296), bof (n / 1099511627776), bof (n / 281474976710656), bof (n / 72057594037927936)]
def ctag (k n o s : List UInt8) : List UInt8 := tag ((kb k 0 n).take 32) (((fil o ++ fil s) ++ e8 o.length) ++ e8 s.length)
theorem ctag_len (k n o s : List UInt8) : (ctag k n o s).length = 16 := tag_len _ _
def box (k n o t : List UInt8) : List UInt8 := xo k 1 n t ++ ctag k n o (xo k 1 n t)
theorem box_len (k n o t : List UInt8) : (box k n o t).length = t.length + 16 := by simp [box, ctag_len, xo_len]
/-- Is it a box? -/
def isbox (k n o b : List UInt8) : Bool := decide (16 ≤ b.length) && decide (ctag k n o (b.take (b.length - 16)) = b.drop (b.length - 16))
theorem box_head (k n o t : List UInt8) : (box k n o t).take ((box k n o t).length - 16) = xo k 1 n t := by
  rw [box_len, Nat.add_sub_cancel, box, List.take_left' (xo_len _ _ _ _)]
theorem box_tail (k n o t : List UInt8) : (box k n o t).drop ((box k n o t).length - 16) = ctag k n o (xo k 1 n t) := by
  rw [box_len, Nat.add_sub_cancel, box, List.drop_left' (xo_len _ _ _ _)]
theorem box_is (k n o t : List UInt8) : isbox k n o (box k n o t) = true := by
  rw [isbox, box_head, box_tail, box_len]; simp
/-- or-ing differences -/
theorem or_zero {x a b : UInt8} : x ||| (a ^^^ b) = 0 ↔ x = 0 ∧ a = b := by
  constructor
  · intro h
    have h1 : (x ||| (a ^^^ b)).toNat = 0 := by rw [h]; rfl
    rw [UInt8.toNat_or, UInt8.toNat_xor, Nat.or_eq_zero_iff] at h1
    refine ⟨UInt8.toNat_inj.1 (by rw [h1.1]; rfl), UInt8.toNat_inj.1 ?_⟩
    have h2 := h1.2
    have h3 : (a.toNat ^^^ b.toNat) ^^^ b.toNat = 0 ^^^ b.toNat := by rw [h2]
    rw [Nat.xor_assoc, Nat.xor_self, Nat.xor_zero, Nat.zero_xor] at h3
    exact h3
  · rintro ⟨rfl, rfl⟩
    rw [UInt8.xor_self]; rfl
theorem eq_step {a b : List UInt8} {i : Nat} {x u v : UInt8} (h : x = 0 ↔ ∀ j, j < i → a[j]? = b[j]?) (hu : a[i]? = some u) (hv : b[i]? = some v) : (x ||| (u ^^^ v)) = 0 ↔ ∀ j, j < i + 1 → a[j]? = b[j]? := by
  rw [or_zero, h]
  constructor
  · rintro ⟨h1, rfl⟩ j hj
    by_cases e : j = i
    · subst e; rw [hu, hv]
    · exact h1 j (by omega)
  · intro h1
    refine ⟨fun j hj => h1 j (by omega), ?_⟩
    have := h1 i (by omega)
    rw [hu, hv] at this; exact Option.some.inj this
theorem eq_all {a b : List UInt8} {i : Nat} {x : UInt8} (h : x = 0 ↔ ∀ j, j < i → a[j]? = b[j]?) (ha : a.length ≤ i) (hl : a.length = b.length) : decide (x = 0) = decide (a = b) := by
  apply decide_eq_decide.2
  rw [h]
  constructor
  · intro h1
    apply List.ext_getElem?
    intro j
    by_cases hj : j < i
    · exact h1 j hj
    · rw [List.getElem?_eq_none (by omega), List.getElem?_eq_none (by omega)]
  · rintro rfl j _; rfl
theorem isbox_eq {k n o t : List UInt8} {m : Nat} (en : m = t.length - 16) (hb : isbox k n o t = true) : ctag k n o (t.take m) = t.drop m := by
  subst en
  rw [isbox, Bool.and_eq_true] at hb
  exact of_decide_eq_true hb.2
theorem isbox_ne {k n o t : List UInt8} {m : Nat} (en : m = t.length - 16) (hb : isbox k n o t = false) : ¬ ctag k n o (t.take m) = t.drop m := by
  subst en
  intro h
  have h1 : 16 ≤ t.length := by
    have := congrArg List.length h
    rw [ctag_len, List.length_drop] at this; omega
  rw [isbox, decide_eq_true h1, decide_eq_true h] at hb
  cases hb
theorem short_no {k n o b : List UInt8} (h : b.length < 16) : isbox k n o b = false := by
  rw [isbox, decide_eq_false (by omega)]; rfl
/-- A bit of the tag is turned. -/
theorem turned {k n o t : List UInt8} {i : Nat} {b u : UInt8} (hi : t.length ≤ i) (hb : (box k n o t)[i]? = some b) (hu : u ≠ 0) : isbox k n o ((box k n o t).set i (b ^^^ u)) = false := by
  cases hc : isbox k n o ((box k n o t).set i (b ^^^ u)) with
  | false => rfl
  | true =>
    have e := isbox_eq (m := t.length) (by rw [List.length_set, box_len]; omega) hc
    have hlt := (List.getElem?_eq_some_iff.1 hb).1
    have e1 : ((box k n o t).set i (b ^^^ u)).take t.length = xo k 1 n t := by
      rw [List.take_set_of_le hi, ← xo_len k 1 n t, box, List.take_left]
    rw [e1] at e
    have e2 : (ctag k n o (xo k 1 n t))[i - t.length]? = some b := by
      have h3 := hb
      rw [box, List.getElem?_append_right (by rw [xo_len]; exact hi), xo_len] at h3
      exact h3
    have e3 : (((box k n o t).set i (b ^^^ u)).drop t.length)[i - t.length]? = some (b ^^^ u) := by
      rw [List.getElem?_drop, show t.length + (i - t.length) = i from by omega, List.getElem?_set_self hlt]
    rw [e, e3] at e2
    have h4 : b ^^^ u = b := Option.some.inj e2
    have h5 : b ^^^ (b ^^^ u) = b ^^^ b := by rw [h4]
    rw [← UInt8.xor_assoc, UInt8.xor_self, UInt8.zero_xor] at h5
    exact absurd h5 hu
theorem box_get {k n o t : List UInt8} {i : Nat} {x : UInt8} (hi : i < t.length) (hx : (box k n o t)[i]? = some x) : (xo k 1 n t)[i]? = some x := by
  rwa [box, List.getElem?_append_left (by rw [xo_len]; exact hi)] at hx
theorem box_mix {k n o a b : List UInt8} {i : Nat} {x y u v : UInt8} (hx : (box k n o a)[i]? = some x) (hy : (box k n o b)[i]? = some y) (hu : a[i]? = some u) (hv : b[i]? = some v) : x ^^^ y = u ^^^ v :=
  xo_mix (box_get (List.getElem?_eq_some_iff.1 hu).1 hx) (box_get (List.getElem?_eq_some_iff.1 hv).1 hy) hu hv
def bitof (n : Int) : UInt8 := UInt8.ofNat (2 ^ n.toNat)
theorem bitof_val {n : Int} (h : 0 ≤ n ∧ n < 8) : ((bitof n).toNat : Int) = 2 ^ n.toNat ∧ bitof n ≠ 0 := by
  have e : n.toNat = 0 ∨ n.toNat = 1 ∨ n.toNat = 2 ∨ n.toNat = 3 ∨ n.toNat = 4 ∨ n.toNat = 5 ∨ n.toNat = 6 ∨ n.toNat = 7 := by omega
  unfold bitof
  rcases e with e | e | e | e | e | e | e | e <;> rw [e] <;> exact ⟨by decide, by decide⟩
theorem r_bit {P : Program} {E : Env} {w : World} {dst : Option Tmp} {ty t t2 : TypeId} {pos : String} {aft : Array Edge} {gd : Option (Nat × Bool)} {x y : Operand} {n : Int} (hx : ev E x = .int .u8 1) (hy : ev E y = .int .i64 n) (h : 0 ≤ n ∧ n < 8) :
    Gives P E w ⟨dst, .binOp .shl t x y t2, ty, pos, aft, gd⟩ (.int .u8 ((bitof n).toNat : Int)) w := by
  have h1 := r_shl (P := P) (w := w) (dst := dst) (ty := ty) (pos := pos) (aft := aft) (gd := gd) (t := t) (t2 := t2) hx hy h.1
  refine r_asn ?_ h1
  rw [(bitof_val h).1]
  have e : n.toNat = 0 ∨ n.toNat = 1 ∨ n.toNat = 2 ∨ n.toNat = 3 ∨ n.toNat = 4 ∨ n.toNat = 5 ∨ n.toNat = 6 ∨ n.toNat = 7 := by omega
  rcases e with e | e | e | e | e | e | e | e <;> rw [e] <;> decide
theorem ank_no : isbox (List.replicate 32 0) (List.replicate 12 0) [121] (box (List.replicate 32 0) (List.replicate 12 0) [120] [97, 98, 99]) = false := by
  rw [isbox, box_head, box_tail]
  have h : ¬ ctag (List.replicate 32 0) (List.replicate 12 0) [121] (xo (List.replicate 32 0) 1 (List.replicate 12 0) [97, 98, 99]) = ctag (List.replicate 32 0) (List.replicate 12 0) [120] (xo (List.replicate 32 0) 1 (List.replicate 12 0) [97, 98, 99]) := by
    unfold ctag tag
    rw [accS_F _ 48 _ _ (by simp [fil, e8, padn, xo_len]), accS_F _ 48 _ _ (by simp [fil, e8, padn, xo_len])]
    decide +kernel
  rw [decide_eq_false h, Bool.and_false]
end Go.Proofs.Ytlhaojpkejpgfaa
