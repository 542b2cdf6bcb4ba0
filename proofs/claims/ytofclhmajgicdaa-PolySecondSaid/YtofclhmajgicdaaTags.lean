import Derived.Test.YtofclhmajgicdaaSpec
/-
  What the tags of layer 4 are, beyond the walk.
-/
set_option linter.unusedVariables false
set_option linter.unusedSimpArgs false
namespace Go.Proofs.Ytofclhmajgicdaa
open Go.RowKit Go.Ecal
def accF (r : Int) : Nat → Int → List UInt8 → Int
  | 0, a, _ => a
  | n + 1, a, t => if t.length = 0 then a else accF r n ((a + num (t.take 16 ++ [1])) * r % 1361129467683753853853498429727072845819) (t.drop 16)
theorem accS_F (r : Int) : ∀ (n : Nat) (a : Int) (t : List UInt8), t.length ≤ n → accS r a t = accF r n a t
  | 0, a, t, h => by rw [accS, if_pos (by omega)]; rfl
  | n + 1, a, t, h => by
    rw [accF]
    by_cases h0 : t.length = 0
    · rw [if_pos h0, accS, if_pos h0]
    · rw [if_neg h0, accS_step r a (by omega), accS_F r n _ _ (by simp; omega)]
theorem ank_tag : tag [133, 214, 190, 120, 87, 85, 109, 51, 127, 68, 82, 254, 66, 213, 6, 168, 1, 3, 128, 138, 251, 13, 178, 253, 74, 191, 246, 175, 65, 73, 245, 27] [67, 114, 121, 112, 116, 111, 103, 114, 97, 112, 104, 105, 99, 32, 70, 111, 114, 117, 109, 32, 82, 101, 115, 101, 97, 114, 99, 104, 32, 71, 114, 111, 117, 112]
    = [168, 6, 29, 193, 48, 81, 54, 198, 194, 43, 139, 175, 12, 1, 39, 169] := by
  rw [tag, accS_F _ 34 _ _ (by decide)]
  decide +kernel
theorem tag_len (k t : List UInt8) : (tag k t).length = 16 := tgn_len _ _
theorem tgn_mod (V : Int) : tgn (V % 340282366920938463463374607431768211456) 16 = tgn V 16 := by
  simp only [tgn, show List.range 16 = [0, 1, 2, 3, 4, 5, 6, 7, 8, 9, 10, 11, 12, 13, 14, 15] from rfl, List.map_cons, List.map_nil, Int.reducePow]
  simp only [List.cons.injEq, and_true]
  refine ⟨?_, ?_, ?_, ?_, ?_, ?_, ?_, ?_, ?_, ?_, ?_, ?_, ?_, ?_, ?_, ?_⟩ <;> apply bof_eq <;> omega
/-- the bytes of sixteen bytes' number are they -/
theorem tgn_num {s : List UInt8} (hs : s.length = 16) : tgn (num s) 16 = s := by
  apply List.ext_getElem?
  intro i
  by_cases hi : i < 16
  · have h1 : (tgn (num s) 16)[i]? = some (bof (num s / 256 ^ i)) := by simp [tgn, hi]
    have h2 : s[i]? = some s[i] := List.getElem?_eq_getElem (by omega)
    rw [h1, h2]; congr 1
    have d := val_digit (dig_num s) i
    rw [getD_of (x := (s[i].toNat : Int)) (by simp [h2]), ← num_val (by omega)] at d
    have e : bof (num s / 256 ^ i) = bof (s[i].toNat : Int) := bof_eq (by omega)
    rw [e]
    have := s[i].toNat_lt
    apply UInt8.toNat_inj.1
    have b := bof_lt (m := (s[i].toNat : Int)) (by omega) (by omega)
    omega
  · rw [List.getElem?_eq_none (by rw [tgn_len]; omega), List.getElem?_eq_none (by omega)]
theorem accS_zero (t : List UInt8) : accS 0 0 t = 0 := by
  have : ∀ n, accF 0 n 0 t = 0 := by
    intro n
    induction n generalizing t with
    | zero => rfl
    | succ n ih => rw [accF]; split
                   · rfl
                   · rw [Int.mul_zero, Int.zero_emod]; exact ih _
  rw [accS_F _ t.length _ _ (Nat.le_refl _), this]
theorem tag_nought {s t : List UInt8} (hs : s.length = 16) : tag (List.replicate 16 0 ++ s) t = s := by
  have h1 : (List.replicate 16 (0 : UInt8) ++ s).take 16 = List.replicate 16 0 := by rw [List.take_left' (by simp)]
  have h2 : (List.replicate 16 (0 : UInt8) ++ s).drop 16 = s := by rw [List.drop_left' (by simp)]
  rw [tag, h1, h2, show cl (num (List.replicate 16 0)) = 0 from by decide, accS_zero, Int.zero_add, tgn_num hs]
theorem tag_nil {f a : List UInt8} (hf : f.length = 16) (ha : a.length = 16) : tag (f ++ a) [] = a := by
  rw [tag, accS_nil, Int.zero_add, List.drop_left' hf, tgn_num ha]
theorem div_next (V : Int) (i : Nat) : V / 256 ^ (i + 1) = V / 256 ^ i / 256 := by
  rw [Int.pow_succ, ← Int.ediv_ediv_of_nonneg (by have := pow256 i; omega)]
theorem sec_step {W U B c x b : Int} {i : Nat} (hc : c = W / 256 ^ i - U / 256 ^ i - B / 256 ^ i) (hx : x = U / 256 ^ i % 256) (hb : b = B / 256 ^ i % 256) :
    (c + x + b) % 256 = W / 256 ^ i % 256 ∧ (c + x + b) / 256 = W / 256 ^ (i + 1) - U / 256 ^ (i + 1) - B / 256 ^ (i + 1) := by
  rw [div_next, div_next, div_next]
  generalize W / 256 ^ i = w at *; generalize U / 256 ^ i = u at *; generalize B / 256 ^ i = v at *
  omega
theorem tgn_get {V : Int} {i : Nat} {u : UInt8} (h : (tgn V 16)[i]? = some u) : (u.toNat : Int) = V / 256 ^ i % 256 := by
  have hi : i < 16 := by
    have := (List.getElem?_eq_some_iff.1 h).1
    rwa [tgn_len] at this
  have h1 : (tgn V 16)[i]? = some (bof (V / 256 ^ i)) := by simp [tgn, hi]
  rw [h1] at h; cases h
  rw [← bof_mod]; exact bof_lt (by omega) (by omega)
theorem num_get {b : List UInt8} (hb : b.length ≤ 17) {i : Nat} {u : UInt8} (h : b[i]? = some u) : (u.toNat : Int) = num b / 256 ^ i % 256 := by
  have d := val_digit (dig_num b) i
  rw [getD_of (x := (u.toNat : Int)) (by simp [h]), ← num_val hb] at d
  exact d
theorem num_noget {b : List UInt8} (hb : b.length ≤ 17) {i : Nat} (h : b.length ≤ i) : (0 : Int) = num b / 256 ^ i % 256 := by
  have d := val_digit (dig_num b) i
  rw [getD_no (by simpa using h), ← num_val hb] at d
  exact d
theorem tag_app {f a t : List UInt8} (hf : f.length = 16) : tag (f ++ a) t = tgn (accS (cl (num f)) 0 t + num a) 16 := by
  rw [tag, List.take_left' hf, List.drop_left' hf]
theorem accS_one {t : List UInt8} (h0 : 0 < t.length) (h1 : t.length ≤ 15) : accS 1 0 t = num (t ++ [1]) := by
  have b := num_bd16 (b := t ++ [1]) (by simp; omega)
  have b2 := (num_bd (t ++ [1])).1
  rw [accS_step _ _ h0, List.take_of_length_le (by omega), List.drop_eq_nil_of_le (by omega), accS_nil]; omega
theorem tag_one {s t : List UInt8} (h0 : 0 < t.length) (h1 : t.length ≤ 15) : tag (([1] ++ List.replicate 15 (0 : UInt8)) ++ s) t = tgn (num (t ++ [1]) + num s) 16 := by
  rw [tag_app (by simp), show cl (num ([1] ++ List.replicate 15 (0 : UInt8))) = 1 from by decide, accS_one h0 h1]
/-- which bits of the key count -/
theorem cl_bi {l : List UInt8} (hl : l.length ≤ 16) : cl (num l) = (bi l 0 + bi l 1 * 256 + bi l 2 * 65536 + bi l 3 % 16 * 16777216 + (bi l 4 / 4 * 4 + bi l 5 * 256 + bi l 6 * 65536 + bi l 7 % 16 * 16777216) * 4294967296) + (bi l 8 / 4 * 4 + bi l 9 * 256 + bi l 10 * 65536 + bi l 11 % 16 * 16777216 + (bi l 12 / 4 * 4 + bi l 13 * 256 + bi l 14 * 65536 + bi l 15 % 16 * 16777216) * 4294967296) * 18446744073709551616 := by
  have := bi_lt l
  have b0 := this 0; have b1 := this 1; have b2 := this 2; have b3 := this 3; have b4 := this 4; have b5 := this 5; have b6 := this 6; have b7 := this 7
  have b8 := this 8; have b9 := this 9; have b10 := this 10; have b11 := this 11; have b12 := this 12; have b13 := this 13; have b14 := this 14; have b15 := this 15
  have b16 := bi_no (l := l) (i := 16) hl
  simp only [num, b16]
  generalize bi l 0 = c0 at *; generalize bi l 1 = c1 at *; generalize bi l 2 = c2 at *; generalize bi l 3 = c3 at *; generalize bi l 4 = c4 at *; generalize bi l 5 = c5 at *; generalize bi l 6 = c6 at *; generalize bi l 7 = c7 at *
  generalize bi l 8 = c8 at *; generalize bi l 9 = c9 at *; generalize bi l 10 = c10 at *; generalize bi l 11 = c11 at *; generalize bi l 12 = c12 at *; generalize bi l 13 = c13 at *; generalize bi l 14 = c14 at *; generalize bi l 15 = c15 at *
  clear this b16 hl
  generalize hA : (c0 : Int) + c1 * 256 + c2 * 65536 + c3 * 16777216 + c4 * 4294967296 + c5 * 1099511627776 + c6 * 281474976710656 + c7 * 72057594037927936 = A
  generalize hB : (c8 : Int) + c9 * 256 + c10 * 65536 + c11 * 16777216 + c12 * 4294967296 + c13 * 1099511627776 + c14 * 281474976710656 + c15 * 72057594037927936 = B
  have bA : 0 ≤ A ∧ A < 18446744073709551616 := by omega
  have eB : (A + B * 18446744073709551616 + 0 * 340282366920938463463374607431768211456) / 18446744073709551616 = B := by omega
  have a1 : (A + B * 18446744073709551616 + 0 * 340282366920938463463374607431768211456) % 268435456 = c0 + c1 * 256 + c2 * 65536 + c3 % 16 * 16777216 := by omega
  have a2 : (A + B * 18446744073709551616 + 0 * 340282366920938463463374607431768211456) / 17179869184 % 67108864 * 17179869184 = (c4 / 4 * 4 + c5 * 256 + c6 * 65536 + c7 % 16 * 16777216) * 4294967296 := by omega
  have a3 : B / 4 % 67108864 * 4 = c8 / 4 * 4 + c9 * 256 + c10 * 65536 + c11 % 16 * 16777216 := by omega
  have a4 : B / 17179869184 % 67108864 * 17179869184 = (c12 / 4 * 4 + c13 * 256 + c14 * 65536 + c15 % 16 * 16777216) * 4294967296 := by omega
  unfold cl
  rw [eB, a1, a2, a3, a4]; omega
theorem nu_map (l : List UInt8) : (nu l).map (Value.int .u8) = l.map byt := by simp [nu, byt]
theorem nu_back {l : List Int} (h : dig l) : nu (l.map bof) = l := by
  apply List.ext_getElem?
  intro i
  simp only [nu, List.map_map, List.getElem?_map]
  cases hx : l[i]? with
  | none => simp
  | some x =>
    have := dig_get h hx
    simp only [Option.map_some, Function.comp]
    congr 1
    exact bof_lt (by omega) (by omega)
theorem bi_nu (l : List UInt8) (i : Nat) : bi l i = (nu l).getD i 0 := by
  simp only [bi, nu, List.getD_eq_getElem?_getD, List.getElem?_map]
  cases l[i]? <;> rfl
theorem bi_take {l : List UInt8} {i n : Nat} (h : i < n) : bi (l.take n) i = bi l i := by
  simp [bi, List.getD_eq_getElem?_getD, List.getElem?_take, h]
/-- a byte xored with high bits alone, with low ones alone -/
def x8 (m n : Int) : Int := ((m.toNat ^^^ n.toNat : Nat) : Int)
def a8 (m : Int) (k : Nat) : Int := ((m.toNat &&& k : Nat) : Int)
theorem x8_hi {m n : Int} (hm : 0 ≤ m) : x8 m (a8 n 240) % 16 = m % 16 := by
  have h1 : (m.toNat ^^^ (n.toNat &&& 240)) % 2 ^ 4 = (m.toNat % 2 ^ 4) ^^^ ((n.toNat &&& 240) % 2 ^ 4) := Nat.xor_mod_two_pow
  have h2 : (n.toNat &&& 240) % 2 ^ 4 = (n.toNat % 2 ^ 4) &&& (240 % 2 ^ 4) := Nat.and_mod_two_pow
  rw [show 240 % 2 ^ 4 = 0 from by decide, Nat.and_zero] at h2
  rw [h2, Nat.xor_zero] at h1
  simp only [x8, a8, Int.toNat_natCast]
  omega
theorem x8_lo {m n : Int} (hm : 0 ≤ m) : x8 m (a8 n 3) / 4 = m / 4 := by
  have h1 : (m.toNat ^^^ (n.toNat &&& 3)) / 2 ^ 2 = (m.toNat / 2 ^ 2) ^^^ ((n.toNat &&& 3) / 2 ^ 2) := Nat.xor_div_two_pow
  have h2 : (n.toNat &&& 3) / 2 ^ 2 = (n.toNat / 2 ^ 2) &&& (3 / 2 ^ 2) := Nat.and_div_two_pow
  rw [show 3 / 2 ^ 2 = 0 from by decide, Nat.and_zero] at h2
  rw [h2, Nat.xor_zero] at h1
  simp only [x8, a8, Int.toNat_natCast]
  omega
theorem a8_bd {m : Int} (k : Nat) (h : 0 ≤ m ∧ m ≤ 255) : 0 ≤ a8 m k ∧ a8 m k ≤ 255 := by
  have : m.toNat &&& k ≤ m.toNat := Nat.and_le_left
  unfold a8; omega
theorem x8_bd {m n : Int} (h : 0 ≤ m ∧ m ≤ 255) (hn : 0 ≤ n ∧ n ≤ 255) : 0 ≤ x8 m n ∧ x8 m n ≤ 255 := by
  have : m.toNat ^^^ n.toNat < 2 ^ 8 := Nat.xor_lt_two_pow (by omega) (by omega)
  unfold x8; omega
section
variable {P : Program} {E : Env} {w : World} {dst : Option Tmp} {ty t t2 : TypeId} {pos : String} {aft : Array Edge} {gd : Option (Nat × Bool)} {x y : Operand} {m n : Int}
theorem r_and8 {k : Nat} (hx : ev E x = .int .u8 m) (hy : ev E y = .int .u8 n) (hn : n = k) (hk : k < 256) (hm : 0 ≤ m ∧ m ≤ 255) : Gives P E w ⟨dst, .binOp .and t x y t2, ty, pos, aft, gd⟩ (.int .u8 (a8 m k)) w := by
  subst hn
  exact r_andn (a := m.toNat) (by rw [hx, Int.toNat_of_nonneg hm.1]) hy (by simp [IntKind.signed, IntKind.bits]; omega) (by simp [IntKind.signed, IntKind.bits]; omega)
theorem r_xor8 (hx : ev E x = .int .u8 m) (hy : ev E y = .int .u8 n) (hm : 0 ≤ m ∧ m ≤ 255) (hn : 0 ≤ n ∧ n ≤ 255) : Gives P E w ⟨dst, .binOp .xor t x y t2, ty, pos, aft, gd⟩ (.int .u8 (x8 m n)) w := by
  exact r_xorn (a := m.toNat) (b := n.toNat) (by rw [hx, Int.toNat_of_nonneg hm.1]) (by rw [hy, Int.toNat_of_nonneg hn.1]) (by simp [IntKind.signed, IntKind.bits]; omega) (by simp [IntKind.signed, IntKind.bits]; omega)
end
theorem row_cellA {w : World} {b j n m : Nat} {l : List UInt8} {u : UInt8} (h : Row w (.slice (some ⟨b, 0, none⟩) n m) (l.map byt)) (hu : l[j]? = some u) : w.cell? ⟨b, j, none⟩ = some (byt u) := by
  have := h.cell (bs_get hu)
  simpa [at_] using this
end Go.Proofs.Ytofclhmajgicdaa
