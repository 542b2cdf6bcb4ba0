import Derived.Test.YtlhaojpkejpgfaaEcal
/-
  The documents' answers for layers 3 and 4.
-/
set_option linter.unusedVariables false
set_option linter.unusedSimpArgs false
namespace Go.Proofs.Ytlhaojpkejpgfaa
open Go.RowKit Go.Ecal
def rl (x p : Int) : Int := x * p % 4294967296 + x * p / 4294967296
theorem rl_lt {x p : Int} (hx : 0 ≤ x ∧ x < 4294967296) (hp : p = 65536 ∨ p = 4096 ∨ p = 256 ∨ p = 128) : 0 ≤ rl x p ∧ rl x p < 4294967296 := by
  unfold rl; rcases hp with rfl | rfl | rfl | rfl <;> omega
theorem xr_lt32 {m n : Int} (hm : 0 ≤ m ∧ m < 4294967296) (hn : 0 ≤ n ∧ n < 4294967296) : 0 ≤ xr m n ∧ xr m n < 4294967296 := by
  simpa using xr_lt 32 (by simpa using hm) (by simpa using hn)
def OK (l : List Int) : Prop := l.length = 16 ∧ ∀ x ∈ l, 0 ≤ x ∧ x < 4294967296
theorem OK.get {l : List Int} (h : OK l) {j : Nat} {x : Int} (hx : l[j]? = some x) : 0 ≤ x ∧ x < 4294967296 := h.2 x (List.mem_of_getElem? hx)
theorem OK.getD {l : List Int} (h : OK l) (j : Nat) : 0 ≤ l.getD j 0 ∧ l.getD j 0 < 4294967296 := by
  rw [List.getD_eq_getElem?_getD]
  cases hx : l[j]? with
  | none => simp
  | some x => exact h.get hx
theorem OK.set {l : List Int} (h : OK l) (j : Nat) {x : Int} (hx : 0 ≤ x ∧ x < 4294967296) : OK (l.set j x) := by
  refine ⟨by simp [h.1], fun y hy => ?_⟩
  rcases List.mem_or_eq_of_mem_set hy with h1 | h1
  · exact h.2 y h1
  · subst h1; exact hx
def sa (l : List Int) (a b : Nat) : List Int := l.set a ((l.getD a 0 + l.getD b 0) % 4294967296)
def sx (l : List Int) (d a : Nat) (p : Int) : List Int := l.set d (rl (xr (l.getD d 0) (l.getD a 0)) p)
theorem OK.sa {l : List Int} (h : OK l) (a b : Nat) : OK (sa l a b) := h.set a (by omega)
theorem OK.sx {l : List Int} (h : OK l) (a b : Nat) {p : Int} (hp : p = 65536 ∨ p = 4096 ∨ p = 256 ∨ p = 128) : OK (sx l a b p) := h.set a (rl_lt (xr_lt32 (h.getD _) (h.getD _)) hp)
theorem sa_of {l : List Int} {a b : Nat} {x y : Int} (hx : l[a]? = some x) (hy : l[b]? = some y) : l.set a ((x + y) % 4294967296) = sa l a b := by simp [sa, List.getD_eq_getElem?_getD, hx, hy]
theorem sx_of {l : List Int} {d a : Nat} {x y p : Int} (hx : l[d]? = some x) (hy : l[a]? = some y) : l.set d (rl (xr x y) p) = sx l d a p := by simp [sx, List.getD_eq_getElem?_getD, hx, hy]
def qr (l : List Int) (a b c d : Nat) : List Int :=
  sx (sa (sx (sa (sx (sa (sx (sa l a b) d a 65536) c d) b c 4096) a b) d a 256) c d) b c 128
theorem OK.qr {l : List Int} (h : OK l) (a b c d : Nat) : OK (qr l a b c d) :=
  ((((((((h.sa _ _).sx _ _ (by decide)).sa _ _).sx _ _ (by decide)).sa _ _).sx _ _ (by decide)).sa _ _).sx _ _ (by decide))
def d4 (l : List Int) : Nat → List Int
  | 0 => l
  | n + 1 => qr (d4 l n) n (4 + n) (8 + n) (12 + n)
def dr (l : List Int) : List Int :=
  qr (qr (qr (qr (qr (qr (qr (qr l 0 4 8 12) 1 5 9 13) 2 6 10 14) 3 7 11 15) 0 5 10 15) 1 6 11 12) 2 7 8 13) 3 4 9 14
theorem OK.dr {l : List Int} (h : OK l) : OK (dr l) := (((((((h.qr _ _ _ _).qr _ _ _ _).qr _ _ _ _).qr _ _ _ _).qr _ _ _ _).qr _ _ _ _).qr _ _ _ _).qr _ _ _ _
def rnd (l : List Int) : Nat → List Int
  | 0 => l
  | n + 1 => dr (rnd l n)
theorem OK.rnd {l : List Int} (h : OK l) : ∀ n, OK (rnd l n)
  | 0 => h
  | n + 1 => (OK.rnd h n).dr
def wb (x : Int) : List UInt8 := [bof x, bof (x / 256), bof (x / 65536), bof (x / 16777216)]
def ser (s t : List Int) : Nat → List UInt8
  | 0 => []
  | n + 1 => ser s t n ++ wb ((t.getD n 0 + s.getD n 0) % 4294967296)
theorem ser_len (s t : List Int) (n : Nat) : (ser s t n).length = 4 * n := by
  induction n with
  | zero => rfl
  | succ n ih => simp [ser, ih, wb]; omega
def blk (s : List Int) : List UInt8 := ser s (rnd s 10) 16
theorem blk_len (s : List Int) : (blk s).length = 64 := ser_len _ _ _
def bi (l : List UInt8) (i : Nat) : Int := ((l.getD i 0).toNat : Int)
theorem bi_of {l : List UInt8} {i : Nat} {b : UInt8} (h : l[i]? = some b) : bi l i = (b.toNat : Int) := by simp [bi, List.getD_eq_getElem?_getD, h]
theorem bi_lt (l : List UInt8) (i : Nat) : 0 ≤ bi l i ∧ bi l i < 256 := by
  have := (l.getD i 0).toNat_lt; unfold bi; omega
def wd (l : List UInt8) (i : Nat) : Int := bi l i + bi l (i + 1) * 256 + bi l (i + 2) * 65536 + bi l (i + 3) * 16777216
theorem wd_lt (l : List UInt8) (i : Nat) : 0 ≤ wd l i ∧ wd l i < 4294967296 := by
  have h0 := bi_lt l i; have h1 := bi_lt l (i + 1); have h2 := bi_lt l (i + 2); have h3 := bi_lt l (i + 3)
  unfold wd; omega
theorem wd_drop (l : List UInt8) (i : Nat) : wd (l.drop i) 0 = wd l i := by
  simp [wd, bi, List.getD_eq_getElem?_getD]
def st (k : List UInt8) (c : Int) (n : List UInt8) : List Int :=
  [1634760805, 857760878, 2036477234, 1797285236, wd k 0, wd k 4, wd k 8, wd k 12, wd k 16, wd k 20, wd k 24, wd k 28, c, wd n 0, wd n 4, wd n 8]
theorem OK_st (k : List UInt8) {c : Int} (n : List UInt8) (hc : 0 ≤ c ∧ c < 4294967296) : OK (st k c n) := by
  refine ⟨rfl, fun x hx => ?_⟩
  simp only [st, List.mem_cons, List.not_mem_nil, or_false] at hx
  have hk := wd_lt k; have hn := wd_lt n
  rcases hx with h | h | h | h | h | h | h | h | h | h | h | h | h | h | h | h <;> rw [h]
  iterate 4 (exact ⟨by omega, by omega⟩)
  iterate 8 (exact hk _)
  exact hc
  iterate 3 (exact hn _)
def kb (k : List UInt8) (c : Int) (n : List UInt8) : List UInt8 := blk (st k c n)
theorem kb_len (k : List UInt8) (c : Int) (n : List UInt8) : (kb k c n).length = 64 := blk_len _
def chk (k n : List UInt8) (c : Int) : Int := if k.length ≠ 32 ∨ n.length ≠ 12 then 11 else if c < 0 ∨ 4294967295 < c then 12 else 0
theorem chk_ok {k n : List UInt8} {c : Int} (h : chk k n c = 0) : k.length = 32 ∧ n.length = 12 ∧ 0 ≤ c ∧ c < 4294967296 := by
  unfold chk at h; split at h
  · cases h
  · split at h
    · cases h
    · omega
theorem chk_of {k n : List UInt8} {c : Int} (h1 : k.length = 32) (h2 : n.length = 12) (h3 : 0 ≤ c ∧ c < 4294967296) : chk k n c = 0 := by
  unfold chk; rw [if_neg (by omega), if_neg (by omega)]
theorem chk_size {k n : List UInt8} {c : Int} (h : k.length ≠ 32 ∨ n.length ≠ 12) : chk k n c = 11 := by unfold chk; rw [if_pos h]
theorem chk_range {k n : List UInt8} {c : Int} (h : k.length = 32 ∧ n.length = 12) (h3 : c < 0 ∨ 4294967295 < c) : chk k n c = 12 := by unfold chk; rw [if_neg (by omega), if_pos h3]
/-- The stream's byte j, and what a text is xored to. -/
def ks (k : List UInt8) (c : Int) (n : List UInt8) (j : Nat) : UInt8 := (kb k ((c + j / 64) % 4294967296) n).getD (j % 64) 0
def xo (k : List UInt8) (c : Int) (n : List UInt8) (l : List UInt8) : List UInt8 := (List.range l.length).map fun j => l.getD j 0 ^^^ ks k c n j
theorem xo_len (k : List UInt8) (c : Int) (n : List UInt8) (l : List UInt8) : (xo k c n l).length = l.length := by simp [xo]
theorem xo_get {k : List UInt8} {c : Int} {n l : List UInt8} {j : Nat} {u : UInt8} (h : l[j]? = some u) : (xo k c n l)[j]? = some (u ^^^ ks k c n j) := by
  have hj : j < l.length := (List.getElem?_eq_some_iff.1 h).1
  simp [xo, List.getElem?_map, List.getElem?_range hj, List.getD_eq_getElem?_getD, h]
theorem xo_of {k : List UInt8} {c : Int} {n l o : List UInt8} (hl : o.length = l.length) (h : ∀ j u, j < l.length → l[j]? = some u → o[j]? = some (u ^^^ ks k c n j)) : o = xo k c n l := by
  apply List.ext_getElem?
  intro j
  by_cases hj : j < l.length
  · rw [h j _ hj (List.getElem?_eq_getElem hj), xo_get (List.getElem?_eq_getElem hj)]
  · rw [List.getElem?_eq_none (by omega), List.getElem?_eq_none (by rw [xo_len]; omega)]
theorem od_step {k n t ol : List UInt8} {c : Int} {i : Nat} {u0 b0 : UInt8} (hl : ol.length = t.length) (hod : ∀ j u, j < i → t[j]? = some u → ol[j]? = some (u ^^^ ks k c n j)) (hu : t[i]? = some u0)
    (hb : (kb k ((c + (i : Int) / 64) % 4294967296) n)[i % 64]? = some b0) : ∀ j u, j < i + 1 → t[j]? = some u → (ol.set i (u0 ^^^ b0))[j]? = some (u ^^^ ks k c n j) := by
  intro j u hj hu'
  have hi : i < t.length := (List.getElem?_eq_some_iff.1 hu).1
  by_cases he : j = i
  · subst he
    rw [hu] at hu'
    cases hu'
    rw [List.getElem?_set_self (by omega)]
    simp [ks, List.getD_eq_getElem?_getD, hb]
  · rw [List.getElem?_set_ne (by omega)]
    exact hod j u (by omega) hu'
theorem oa_step {k n t ol : List UInt8} {c : Int} {i : Nat} {u0 b0 : UInt8} (hl : ol.length = i) (hod : ∀ j u, j < i → t[j]? = some u → ol[j]? = some (u ^^^ ks k c n j)) (hu : t[i]? = some u0)
    (hb : (kb k ((c + (i : Int) / 64) % 4294967296) n)[i % 64]? = some b0) : ∀ j u, j < i + 1 → t[j]? = some u → (ol ++ [u0 ^^^ b0])[j]? = some (u ^^^ ks k c n j) := by
  intro j u hj hu'
  by_cases he : j = i
  · subst he
    rw [hu] at hu'
    cases hu'
    rw [← hl, List.getElem?_append_right (Nat.le_refl _)]
    subst hl
    simp [ks, List.getD_eq_getElem?_getD, hb]
  · rw [List.getElem?_append_left (by omega)]
    exact hod j u (by omega) hu'
def ankey : List UInt8 := (List.range 32).map UInt8.ofNat
abbrev annonce : List UInt8 := [0, 0, 0, 9, 0, 0, 0, 74, 0, 0, 0, 0]
theorem ank_of {l : List UInt8} (hl : l.length = 32) (h : ∀ j, j < 32 → l[j]? = some (UInt8.ofNat j)) : l = ankey := by
  apply List.ext_getElem?
  intro j
  by_cases hj : j < 32
  · rw [h j hj]; simp [ankey, List.getElem?_range hj]
  · rw [List.getElem?_eq_none (by omega), List.getElem?_eq_none (by simp [ankey]; omega)]
theorem ank_step {l : List UInt8} {i x : Int} (hl : l.length = 32) (h : ∀ j, j < i.toNat → l[j]? = some (UInt8.ofNat j)) (hi : 0 ≤ i ∧ i < 32) (hx : x = i + 1) : ∀ j, j < x.toNat → (l.set (i : Int).toNat (bof i))[j]? = some (UInt8.ofNat j) := by
  intro j hj
  by_cases he : j = i.toNat
  · subst he
    rw [List.getElem?_set_self (by omega)]
    simp [bof]; congr 1; omega
  · rw [List.getElem?_set_ne (by omega)]; exact h j (by omega)
theorem ank_chk : chk ankey annonce 1 = 0 := by decide
theorem ank_val : (kb ankey 1 annonce).take 8 = [16, 241, 231, 228, 209, 59, 89, 21] := by decide +kernel
theorem chk_cases (k n : List UInt8) (c : Int) : ((k.length ≠ 32 ∨ n.length ≠ 12) ∧ chk k n c = 11) ∨ ((k.length = 32 ∧ n.length = 12) ∧ (c < 0 ∨ 4294967295 < c) ∧ chk k n c = 12) ∨ ((k.length = 32 ∧ n.length = 12) ∧ (0 ≤ c ∧ c < 4294967296) ∧ chk k n c = 0) := by
  by_cases h : k.length ≠ 32 ∨ n.length ≠ 12
  · exact .inl ⟨h, chk_size h⟩
  · by_cases h2 : c < 0 ∨ 4294967295 < c
    · exact .inr (.inl ⟨by omega, h2, chk_range (by omega) h2⟩)
    · exact .inr (.inr ⟨by omega, by omega, chk_of (by omega) (by omega) (by omega)⟩)
theorem xo_xo (k : List UInt8) (c : Int) (n l : List UInt8) : xo k c n (xo k c n l) = l := by
  symm
  refine xo_of (xo_len _ _ _ _).symm fun j u hj hu => ?_
  rw [xo_len] at hj
  have h1 := xo_get (k := k) (c := c) (n := n) (List.getElem?_eq_getElem hj)
  rw [h1] at hu
  cases hu
  rw [List.getElem?_eq_getElem hj, UInt8.xor_assoc, UInt8.xor_self, UInt8.xor_zero]
theorem xo_take (k : List UInt8) (c : Int) (n l : List UInt8) (m : Nat) : xo k c n (l.take m) = (xo k c n l).take m := by
  symm
  refine xo_of (by simp [xo_len]) fun j u hj hu => ?_
  rw [List.length_take] at hj
  have hj1 : j < m := by omega
  rw [List.getElem?_take, if_pos hj1] at hu
  rw [List.getElem?_take, if_pos hj1]
  exact xo_get hu
theorem ks_add (k : List UInt8) (c : Int) (n : List UInt8) (a j : Nat) : ks k c n (64 * a + j) = ks k ((c + a) % 4294967296) n j := by
  unfold ks
  rw [show (64 * a + j) % 64 = j % 64 from by omega, show (c + ((64 * a + j : Nat) : Int) / 64) % 4294967296 = ((c + a) % 4294967296 + (j : Int) / 64) % 4294967296 from by omega]
theorem xo_cut (k : List UInt8) (c : Int) (n l : List UInt8) (a : Nat) (ha : 64 * a ≤ l.length) : xo k c n l = xo k c n (l.take (64 * a)) ++ xo k ((c + a) % 4294967296) n (l.drop (64 * a)) := by
  symm
  refine xo_of (by simp [xo_len]; omega) fun j u hj hu => ?_
  by_cases h : j < 64 * a
  · rw [List.getElem?_append_left (by rw [xo_len]; simp; omega)]
    exact xo_get (by rw [List.getElem?_take, if_pos h]; exact hu)
  · rw [List.getElem?_append_right (by rw [xo_len]; simp; omega), xo_len, List.length_take, Nat.min_eq_left ha]
    have h2 : (l.drop (64 * a))[j - 64 * a]? = some u := by rw [List.getElem?_drop, show 64 * a + (j - 64 * a) = j from by omega]; exact hu
    rw [xo_get h2]
    have := ks_add k c n a (j - 64 * a)
    rw [show 64 * a + (j - 64 * a) = j from by omega] at this
    rw [this]
theorem xo_mix {k : List UInt8} {c : Int} {n a b : List UInt8} {j : Nat} {x y u v : UInt8} (hx : (xo k c n a)[j]? = some x) (hy : (xo k c n b)[j]? = some y) (hu : a[j]? = some u) (hv : b[j]? = some v) : x ^^^ y = u ^^^ v := by
  rw [xo_get hu] at hx; rw [xo_get hv] at hy
  cases hx; cases hy
  generalize ks k c n j = s
  rw [UInt8.xor_assoc, UInt8.xor_comm s, UInt8.xor_assoc, UInt8.xor_self, UInt8.xor_zero]
theorem xo_zero (k : List UInt8) (c : Int) (n : List UInt8) (m : Nat) (hc : 0 ≤ c ∧ c + 8 < 4294967296) (hm : m ≤ 320) :
    xo k c n (List.replicate m 0) = (kb k c n ++ kb k (c + 1) n ++ kb k (c + 2) n ++ kb k (c + 3) n ++ kb k (c + 4) n).take m := by
  symm
  refine xo_of (by simp [kb_len]; omega) fun j u hj hu => ?_
  simp at hj
  rw [List.getElem?_replicate, if_pos hj] at hu
  cases hu
  rw [List.getElem?_take, if_pos hj, UInt8.zero_xor]
  unfold ks
  have hl := kb_len k
  have hg : ∀ (q : Int) (i : Nat), i < 64 → (kb k q n)[i]? = some ((kb k q n).getD i 0) := fun q i hi => by
    rw [List.getD_eq_getElem?_getD, List.getElem?_eq_getElem (by rw [hl]; exact hi)]; rfl
  have e : j / 64 = 0 ∨ j / 64 = 1 ∨ j / 64 = 2 ∨ j / 64 = 3 ∨ j / 64 = 4 := by omega
  have step : ∀ (A B : List UInt8), (A ++ B)[j]? = if j < A.length then A[j]? else B[j - A.length]? := fun A B => by rw [List.getElem?_append]
  simp only [step, List.length_append, hl]
  rcases e with e | e | e | e | e
  · rw [if_pos (by omega), if_pos (by omega), if_pos (by omega), if_pos (by omega), hg _ _ (by omega), show (c + (j : Int) / 64) % 4294967296 = c from by omega, show j % 64 = j from by omega]
  · rw [if_pos (by omega), if_pos (by omega), if_pos (by omega), if_neg (by omega), hg _ _ (by omega), show (c + (j : Int) / 64) % 4294967296 = c + 1 from by omega, show j % 64 = j - 64 from by omega]
  · rw [if_pos (by omega), if_pos (by omega), if_neg (by omega), hg _ _ (by omega), show (c + (j : Int) / 64) % 4294967296 = c + 2 from by omega, show j % 64 = j - (64 + 64) from by omega]
  · rw [if_pos (by omega), if_neg (by omega), hg _ _ (by omega), show (c + (j : Int) / 64) % 4294967296 = c + 3 from by omega, show j % 64 = j - (64 + 64 + 64) from by omega]
  · rw [if_neg (by omega), hg _ _ (by omega), show (c + (j : Int) / 64) % 4294967296 = c + 4 from by omega, show j % 64 = j - (64 + 64 + 64 + 64) from by omega]

/-- A number as three words. -/
def wof (n : Int) : List Int := [n % 18446744073709551616, n / 18446744073709551616 % 18446744073709551616, n / 340282366920938463463374607431768211456 % 18446744073709551616]
theorem wof_ex {n : Int} (h0 : 0 ≤ n) (h1 : n < 6277101735386680763835789423207666416102355444464034512896) : ∃ a b c, wof n = [a, b, c] ∧ (0 ≤ a ∧ a < 18446744073709551616) ∧ (0 ≤ b ∧ b < 18446744073709551616) ∧ (0 ≤ c ∧ c < 18446744073709551616) ∧
    n = a + b * 18446744073709551616 + c * 340282366920938463463374607431768211456 := ⟨_, _, _, rfl, by omega, by omega, by omega, by omega⟩
theorem wof_of {a b c n : Int} (ha : 0 ≤ a ∧ a < 18446744073709551616) (hb : 0 ≤ b ∧ b < 18446744073709551616) (hc : 0 ≤ c ∧ c < 18446744073709551616) (h : n = a + b * 18446744073709551616 + c * 340282366920938463463374607431768211456) : ([a, b, c] : List Int) = wof n := by
  subst h
  simp only [wof]
  congr 1
  · omega
  · congr 1
    · omega
    · congr 1; omega
theorem mul_bd {x y B C : Int} (hx : 0 ≤ x ∧ x ≤ B) (hy : 0 ≤ y ∧ y ≤ C) : 0 ≤ x * y ∧ x * y ≤ B * C :=
  ⟨Int.mul_nonneg hx.1 hy.1, Int.mul_le_mul hx.2 hy.2 hy.1 (by omega)⟩
theorem split_mul (a b c d : Int) : (a * 4294967296 + b) * (c * 4294967296 + d) = (a * c) * 18446744073709551616 + (a * d) * 4294967296 + (b * c) * 4294967296 + b * d := by
  grind
theorem mul_parts {x y x1 x0 y1 y0 : Int} (hx : x = x1 * 4294967296 + x0) (hy : y = y1 * 4294967296 + y0) : x * y = (x1 * y1) * 18446744073709551616 + (x1 * y0) * 4294967296 + (x0 * y1) * 4294967296 + x0 * y0 := by
  rw [hx, hy, split_mul]
theorem bi_no {l : List UInt8} {i : Nat} (h : l.length ≤ i) : bi l i = 0 := by simp [bi, List.getD_eq_getElem?_getD, List.getElem?_eq_none h]
/-- Seventeen bytes as a number, the lowest first. -/
def num (l : List UInt8) : Int := bi l 0 + bi l 1 * 256 + bi l 2 * 65536 + bi l 3 * 16777216 + bi l 4 * 4294967296 + bi l 5 * 1099511627776 + bi l 6 * 281474976710656 + bi l 7 * 72057594037927936
  + (bi l 8 + bi l 9 * 256 + bi l 10 * 65536 + bi l 11 * 16777216 + bi l 12 * 4294967296 + bi l 13 * 1099511627776 + bi l 14 * 281474976710656 + bi l 15 * 72057594037927936) * 18446744073709551616 + bi l 16 * 340282366920938463463374607431768211456
/-- A list of digits by 256 as a number, the lowest first. -/
def val : List Int → Int
  | [] => 0
  | x :: l => x + 256 * val l
def dig (l : List Int) : Prop := ∀ x ∈ l, 0 ≤ x ∧ x ≤ 255
theorem val_app (a b : List Int) : val (a ++ b) = val a + 256 ^ a.length * val b := by
  induction a with
  | nil => simp [val]
  | cons x l ih => simp only [List.cons_append, val, ih, List.length_cons, Int.pow_succ]; grind
theorem dig_nil : dig [] := fun x hx => by cases hx
theorem dig_cons {x : Int} {l : List Int} : dig (x :: l) ↔ (0 ≤ x ∧ x ≤ 255) ∧ dig l := by simp [dig]
theorem dig_app {a b : List Int} (ha : dig a) (hb : dig b) : dig (a ++ b) := fun x hx => by
  rcases List.mem_append.1 hx with h | h
  · exact ha x h
  · exact hb x h
theorem dig_one {x : Int} (h : 0 ≤ x ∧ x ≤ 255) : dig [x] := by simpa [dig] using h
theorem dig_take {a : List Int} (ha : dig a) (n : Nat) : dig (a.take n) := fun x hx => ha x (List.mem_of_mem_take hx)
theorem dig_drop {a : List Int} (ha : dig a) (n : Nat) : dig (a.drop n) := fun x hx => ha x (List.mem_of_mem_drop hx)
theorem dig_get {a : List Int} (ha : dig a) {j : Nat} {x : Int} (h : a[j]? = some x) : 0 ≤ x ∧ x ≤ 255 := ha x (List.mem_of_getElem? h)
theorem dig_set {a : List Int} (ha : dig a) (j : Nat) {x : Int} (h : 0 ≤ x ∧ x ≤ 255) : dig (a.set j x) := fun y hy => by
  rcases List.mem_or_eq_of_mem_set hy with h1 | h1
  · exact ha y h1
  · subst h1; exact h
theorem pow256 (n : Nat) : (1 : Int) ≤ 256 ^ n := by
  induction n with
  | zero => simp
  | succ n ih => rw [Int.pow_succ]; omega
theorem val_bd {a : List Int} (ha : dig a) : 0 ≤ val a ∧ val a < 256 ^ a.length := by
  induction a with
  | nil => simp [val]
  | cons x l ih =>
    obtain ⟨h1, h2⟩ := dig_cons.1 ha
    have := ih h2
    simp only [val, List.length_cons, Int.pow_succ]; omega
theorem val_nn {a : List Int} (ha : ∀ x ∈ a, (0 : Int) ≤ x) : 0 ≤ val a := by
  induction a with
  | nil => simp [val]
  | cons x l ih =>
    have h1 := ha x (by simp); have := ih (fun y hy => ha y (by simp [hy]))
    simp only [val]; omega
theorem val_set {a : List Int} {j : Nat} {x y : Int} (h : a[j]? = some x) : val (a.set j y) = val a + (y - x) * 256 ^ j := by
  induction a generalizing j with
  | nil => simp at h
  | cons z l ih =>
    cases j with
    | zero => simp at h; subst h; simp [val]; omega
    | succ j => simp only [List.getElem?_cons_succ] at h; simp only [List.set_cons_succ, val, ih h, Int.pow_succ]; grind
theorem val_rep (n : Nat) : val (List.replicate n 0) = 0 := by
  induction n with
  | zero => rfl
  | succ n ih => simp [List.replicate_succ, val, ih]
theorem val_split (a : List Int) (i : Nat) (hi : i ≤ a.length) : val a = val (a.take i) + 256 ^ i * val (a.drop i) := by
  conv => lhs; rw [← List.take_append_drop i a, val_app]
  simp [List.length_take, Nat.min_eq_left hi]
theorem val_drop {a : List Int} {i : Nat} {x : Int} (h : a[i]? = some x) : val (a.drop i) = x + 256 * val (a.drop (i + 1)) := by
  obtain ⟨hlt, rfl⟩ := List.getElem?_eq_some_iff.1 h
  rw [List.drop_eq_getElem_cons hlt, val]
theorem val_drop0 {a : List Int} {i : Nat} (h : a.length ≤ i) : val (a.drop i) = 0 := by rw [List.drop_eq_nil_of_le h]; rfl
/-- the digit at a place -/
theorem val_digit {a : List Int} (ha : dig a) (i : Nat) : a.getD i 0 = val a / 256 ^ i % 256 := by
  induction a generalizing i with
  | nil => simp [val]
  | cons x l ih =>
    obtain ⟨h1, h2⟩ := dig_cons.1 ha
    cases i with
    | zero => simp [val]; omega
    | succ i =>
      have e : (x + 256 * val l) / 256 ^ (i + 1) = val l / 256 ^ i := by
        rw [Int.pow_succ, Int.mul_comm (256 ^ i), ← Int.ediv_ediv_of_nonneg (by omega), show (x + 256 * val l) / 256 = val l from by omega]
      simp only [List.getD_cons_succ, ih h2, val, e]
theorem val_ge {a : List Int} (ha : dig a) {i : Nat} {x : Int} (h : a[i]? = some x) : x * 256 ^ i ≤ val a := by
  have hlt := (List.getElem?_eq_some_iff.1 h).1
  have e1 := val_split a i (by omega); have e2 := val_drop h
  have b1 := (val_bd (dig_take ha i)).1; have b2 := (val_bd (dig_drop ha (i + 1))).1
  have p := pow256 i
  have : 0 ≤ 256 ^ i * (256 * val (a.drop (i + 1))) := Int.mul_nonneg (by omega) (by omega)
  rw [e1, e2, Int.mul_add, Int.mul_comm x]; omega
theorem le_mulr {a b : Int} (ha : 0 ≤ a) (hb : 1 ≤ b) : a ≤ a * b := by
  have := Int.mul_le_mul_of_nonneg_left hb ha
  simpa using this
/-- is it 2^130 or more? -/
theorem high_hit {a : List Int} (ha : dig a) {i : Nat} {x : Int} (hi : 17 ≤ i) (h : a[i]? = some x) (hx : 0 < x) : (1361129467683753853853498429727072845824 : Int) ≤ val a := by
  have h1 := val_ge ha h
  have h2 : (256 : Int) ^ 17 ≤ 256 ^ i := by
    obtain ⟨k, rfl⟩ := Nat.exists_eq_add_of_le hi
    rw [Int.pow_add]; exact le_mulr (by decide) (pow256 k)
  have h3 : 1 * 256 ^ i ≤ x * 256 ^ i := Int.mul_le_mul_of_nonneg_right (by omega) (by have := pow256 i; omega)
  have h4 : (256 : Int) ^ 17 = 87112285931760246646623899502532662132736 := by decide
  omega
theorem val_zeros {l : List Int} (h : ∀ x ∈ l, x = 0) : val l = 0 := by
  induction l with
  | nil => rfl
  | cons x l ih => simp only [val, h x (by simp), ih (fun y hy => h y (by simp [hy]))]; rfl
theorem high_end {a : List Int} (ha : dig a) (h : ∀ j x, 17 ≤ j → a[j]? = some x → x = 0) : (decide (16 < (a.length : Int)) && decide (3 < a.getD 16 0)) = decide ((1361129467683753853853498429727072845824 : Int) ≤ val a) := by
  have p16 : (256 : Int) ^ 16 = 340282366920938463463374607431768211456 := by decide
  by_cases hl : 16 < a.length
  · have e1 := val_split a 16 (by omega)
    have e2 := val_drop (a := a) (i := 16) (List.getElem?_eq_getElem hl)
    have e3 : val (a.drop 17) = 0 := val_zeros fun x hx => by
      obtain ⟨j, hj⟩ := List.mem_iff_getElem?.1 hx
      rw [List.getElem?_drop] at hj; exact h _ x (by omega) hj
    have b := val_bd (dig_take ha 16)
    rw [List.length_take, Nat.min_eq_left (by omega)] at b
    rw [p16] at e1 b
    have e4 : a.getD 16 0 = a[16] := by simp [List.getD_eq_getElem?_getD, List.getElem?_eq_getElem hl]
    rw [e4]
    rw [e3] at e2
    have : decide (16 < (a.length : Int)) = true := by simp; omega
    rw [this, Bool.true_and]
    apply decide_eq_decide.2
    constructor <;> intro hh <;> omega
  · have b := val_bd ha
    have : (256 : Int) ^ a.length ≤ 256 ^ 16 := by
      obtain ⟨k, hk⟩ := Nat.exists_eq_add_of_le (show a.length ≤ 16 by omega)
      rw [hk, Int.pow_add]; exact le_mulr (by have := pow256 a.length; omega) (pow256 k)
    have h1 : decide (16 < (a.length : Int)) = false := by simp; omega
    have h2 : decide ((1361129467683753853853498429727072845824 : Int) ≤ val a) = false := by simp; omega
    rw [h1, h2]; rfl
/-- one more byte of a sum -/
theorem add_step {A B o c p r : Int} (h : o + p * r = A + B) : o + (r % 256) * p + p * 256 * (r / 256) = A + B := by
  have : r = r % 256 + 256 * (r / 256) := by omega
  have h2 : p * r = (r % 256) * p + p * 256 * (r / 256) := by
    conv => lhs; rw [this]
    grind
  omega
theorem num_val {b : List UInt8} (hb : b.length ≤ 17) : num b = val (b.map fun u => (u.toNat : Int)) := by
  have st : ∀ i, val ((b.map fun u => (u.toNat : Int)).drop i) = bi b i + 256 * val ((b.map fun u => (u.toNat : Int)).drop (i + 1)) := fun i => by
    by_cases hi : i < b.length
    · have h0 : b[i]? = some b[i] := List.getElem?_eq_getElem hi
      rw [val_drop (x := (b[i].toNat : Int)) (by simp [h0]), bi_of h0]
    · rw [bi_no (by omega), val_drop0 (by simp; omega), val_drop0 (by simp; omega)]; rfl
  have e : val ((b.map fun u => (u.toNat : Int)).drop 17) = 0 := val_drop0 (by simp; omega)
  have s0 := st 0; have s1 := st 1; have s2 := st 2; have s3 := st 3; have s4 := st 4; have s5 := st 5; have s6 := st 6; have s7 := st 7; have s8 := st 8
  have s9 := st 9; have s10 := st 10; have s11 := st 11; have s12 := st 12; have s13 := st 13; have s14 := st 14; have s15 := st 15; have s16 := st 16
  simp only [List.drop_zero, Nat.reduceAdd] at *
  simp only [num]; omega
theorem dig_num (b : List UInt8) : dig (b.map fun u => (u.toNat : Int)) := fun x hx => by
  simp only [List.mem_map] at hx
  obtain ⟨u, _, rfl⟩ := hx
  have := u.toNat_lt; omega
def nu (b : List UInt8) : List Int := b.map fun u => (u.toNat : Int)
theorem nu_len (b : List UInt8) : (nu b).length = b.length := by simp [nu]
theorem nu_step {b : List UInt8} {i : Nat} {u : UInt8} (h : b[i]? = some u) : nu (b.take i) ++ [(u.toNat : Int)] = nu (b.take (i + 1)) := by
  simp [nu, List.take_add_one, h]
theorem val_dropD (a : List Int) (i : Nat) : val (a.drop i) = a.getD i 0 + 256 * val (a.drop (i + 1)) := by
  by_cases h : i < a.length
  · rw [val_drop (List.getElem?_eq_getElem h)]; simp [List.getD_eq_getElem?_getD, List.getElem?_eq_getElem h]
  · rw [val_drop0 (by omega), val_drop0 (by omega)]; simp [List.getD_eq_getElem?_getD, List.getElem?_eq_none (Nat.le_of_not_lt h)]
theorem getD_of {a : List Int} {i : Nat} {x : Int} (h : a[i]? = some x) : a.getD i 0 = x := by simp [List.getD_eq_getElem?_getD, h]
theorem getD_no {a : List Int} {i : Nat} (h : a.length ≤ i) : a.getD i 0 = 0 := by simp [List.getD_eq_getElem?_getD, List.getElem?_eq_none h]
theorem add_inv {a b o : List Int} {i : Nat} {c c' A : Int} (ho : o.length = i) (h : val o + 256 ^ i * (c + val (a.drop i) + val (b.drop i)) = A) (hc : c' = c + a.getD i 0 + b.getD i 0) :
    val (o ++ [c' % 256]) + 256 ^ (i + 1) * (c' / 256 + val (a.drop (i + 1)) + val (b.drop (i + 1))) = A := by
  rw [← h, val_app, ho, val_dropD a i, val_dropD b i, Int.pow_succ]
  have e : c' = c' % 256 + 256 * (c' / 256) := by omega
  simp only [val, Int.mul_zero, Int.add_zero]
  have e2 : c + (a.getD i 0 + 256 * val (a.drop (i + 1))) + (b.getD i 0 + 256 * val (b.drop (i + 1))) = c' % 256 + 256 * (c' / 256 + val (a.drop (i + 1)) + val (b.drop (i + 1))) := by omega
  rw [e2]; generalize (256 : Int) ^ i = p; generalize c' % 256 = q; generalize (c' / 256 + val (a.drop (i + 1)) + val (b.drop (i + 1))) = r
  grind
/-- products, entry by entry -/
theorem val_takeS {b : List Int} {k : Nat} {y : Int} (h : b[k]? = some y) : val (b.take (k + 1)) = val (b.take k) + 256 ^ k * y := by
  have hl := (List.getElem?_eq_some_iff.1 h).1
  rw [List.take_add_one, h, val_app, List.length_take, Nat.min_eq_left (by omega)]; simp [val]
theorem mul_inv {o b : List Int} {i k : Nat} {T x y z : Int} (h : val o = T + 256 ^ i * x * val (b.take k)) (hz : o[i + k]? = some z) (hy : b[k]? = some y) :
    val (o.set (i + k) (z + x * y)) = T + 256 ^ i * x * val (b.take (k + 1)) := by
  rw [val_set hz, h, val_takeS hy, Int.pow_add]; grind
theorem all_set {o : List Int} {j : Nat} {y L : Int} (h : ∀ x ∈ o, 0 ≤ x ∧ x ≤ L) (hy : 0 ≤ y ∧ y ≤ L) : ∀ x ∈ o.set j y, 0 ≤ x ∧ x ≤ L := fun x hx => by
  rcases List.mem_or_eq_of_mem_set hx with h1 | h1
  · exact h x h1
  · subst h1; exact hy
theorem carry_inv {o : List Int} {i : Nat} {x y : Int} (hx : o[i]? = some x) (hy : o[i + 1]? = some y) : val ((o.set (i + 1) (y + x / 256)).set i (x % 256)) = val o := by
  have h1 : (o.set (i + 1) (y + x / 256))[i]? = some x := by rw [List.getElem?_set_ne (by omega), hx]
  rw [val_set h1, val_set hy, Int.pow_succ]
  have : x = x % 256 + 256 * (x / 256) := by omega
  generalize (256 : Int) ^ i = p at *
  have e : x % 256 - x = - (256 * (x / 256)) := by omega
  rw [e]; generalize x / 256 = q; grind
/-- what is above 2^130, digit by digit -/
theorem up_inv {a u : List Int} {i : Nat} {n : Int} (hi : 16 ≤ i) (hu : u.length = i - 16) (h : val u + 256 ^ (i - 16) * (val (a.drop i) / 4) = val (a.drop 16) / 4) (hn : n = a.getD i 0 / 4 + a.getD (i + 1) 0 % 4 * 64) :
    val (u ++ [n]) + 256 ^ (i + 1 - 16) * (val (a.drop (i + 1)) / 4) = val (a.drop 16) / 4 := by
  rw [← h, val_app, hu, show i + 1 - 16 = (i - 16) + 1 from by omega, Int.pow_succ, val_dropD a i]
  simp only [val, Int.mul_zero, Int.add_zero]
  have e := val_dropD a (i + 1)
  have e2 : (a.getD i 0 + 256 * val (a.drop (i + 1))) / 4 = n + 256 * (val (a.drop (i + 1)) / 4) := by omega
  rw [e2]; generalize (256 : Int) ^ (i - 16) = p; grind
theorem less_val {a u : List Int} {x : Int} (hx : a[16]? = some x) (hu : val u = val (a.drop 16) / 4) : val a = val (a.take 16 ++ [x % 4]) + 1361129467683753853853498429727072845824 * val u := by
  have hl := (List.getElem?_eq_some_iff.1 hx).1
  have p16 : (256 : Int) ^ 16 = 340282366920938463463374607431768211456 := by decide
  rw [val_app, List.length_take, Nat.min_eq_left (by omega), val_split a 16 (by omega), p16, hu, val_drop hx]; simp only [val]; omega
/-- the tag's bytes -/
def tgn (V : Int) (n : Nat) : List UInt8 := (List.range n).map fun j => bof (V / 256 ^ j)
theorem tgn_len (V : Int) (n : Nat) : (tgn V n).length = n := by simp [tgn]
theorem tgn_step (V : Int) (n : Nat) : tgn V (n + 1) = tgn V n ++ [bof (V / 256 ^ n)] := by simp [tgn, List.range_succ]
/-- the bits of the key that count -/
def cl (n : Int) : Int := (n % 268435456 + n / 17179869184 % 67108864 * 17179869184) + 18446744073709551616 * (n / 18446744073709551616 / 4 % 67108864 * 4 + n / 18446744073709551616 / 17179869184 % 67108864 * 17179869184)
theorem cl_bd (n : Int) : 0 ≤ cl n ∧ cl n < 21267647932558653966460912964485513216 := by unfold cl; omega
def accS (r a : Int) (t : List UInt8) : Int := if t.length = 0 then a else accS r ((a + num (t.take 16 ++ [1])) * r % 1361129467683753853853498429727072845819) (t.drop 16)
termination_by t.length
decreasing_by simp; omega
theorem accS_nil (r a : Int) : accS r a [] = a := by rw [accS]; simp
theorem accS_step (r a : Int) {t : List UInt8} (h : 0 < t.length) : accS r a t = accS r ((a + num (t.take 16 ++ [1])) * r % 1361129467683753853853498429727072845819) (t.drop 16) := by
  rw [accS, if_neg (by omega)]
def tag (k t : List UInt8) : List UInt8 := tgn (accS (cl (num (k.take 16))) 0 t + num (k.drop 16)) 16
theorem accS_bd (r : Int) : ∀ (n : Nat) (a : Int) (t : List UInt8), t.length ≤ n → (0 ≤ a ∧ a < 1361129467683753853853498429727072845819) → 0 ≤ accS r a t ∧ accS r a t < 1361129467683753853853498429727072845819 := by
  intro n
  induction n with
  | zero => intro a t ht ha; rw [accS, if_pos (by omega)]; exact ha
  | succ n ih =>
    intro a t ht ha
    by_cases h : t.length = 0
    · rw [accS, if_pos h]; exact ha
    · rw [accS_step r a (by omega)]
      exact ih _ _ (by simp; omega) (by omega)
theorem num_bd (b : List UInt8) : 0 ≤ num b ∧ num b < 87112285931760246646623899502532662132736 := by
  have := bi_lt b
  have h0 := this 0; have h1 := this 1; have h2 := this 2; have h3 := this 3; have h4 := this 4; have h5 := this 5; have h6 := this 6; have h7 := this 7; have h8 := this 8; have h9 := this 9
  have h10 := this 10; have h11 := this 11; have h12 := this 12; have h13 := this 13; have h14 := this 14; have h15 := this 15; have h16 := this 16
  simp only [num]; omega
theorem num_bd16 {b : List UInt8} (hb : b.length ≤ 16) : num b < 340282366920938463463374607431768211456 := by
  have := bi_lt b
  have h0 := this 0; have h1 := this 1; have h2 := this 2; have h3 := this 3; have h4 := this 4; have h5 := this 5; have h6 := this 6; have h7 := this 7; have h8 := this 8; have h9 := this 9
  have h10 := this 10; have h11 := this 11; have h12 := this 12; have h13 := this 13; have h14 := this 14; have h15 := this 15; have h16 := bi_no (l := b) (i := 16) hb
  simp only [num]; omega
theorem num_bd17 {b : List UInt8} (hb : b.length ≤ 16) : num (b ++ [1]) < 680564733841876926926749214863536422912 := by
  have := bi_lt (b ++ [1])
  have h0 := this 0; have h1 := this 1; have h2 := this 2; have h3 := this 3; have h4 := this 4; have h5 := this 5; have h6 := this 6; have h7 := this 7; have h8 := this 8; have h9 := this 9
  have h10 := this 10; have h11 := this 11; have h12 := this 12; have h13 := this 13; have h14 := this 14; have h15 := this 15
  have h16 : bi (b ++ [1]) 16 ≤ 1 := by
    by_cases h : b.length = 16
    · simp [bi, List.getD_eq_getElem?_getD, List.getElem?_append, h]
    · rw [bi_no (by simp; omega)]; omega
  simp only [num]; omega
theorem bof_eq {a b : Int} (h : a % 256 = b % 256) : bof a = bof b := by rw [← bof_mod a, ← bof_mod b, h]
theorem tgn_words {a b c : Int} (ha : 0 ≤ a ∧ a < 18446744073709551616) (hb : 0 ≤ b ∧ b < 18446744073709551616) :
    [bof a, bof (a / 256), bof (a / 65536), bof (a / 16777216), bof (a / 4294967296), bof (a / 1099511627776), bof (a / 281474976710656), bof (a / 72057594037927936),
     bof b, bof (b / 256), bof (b / 65536), bof (b / 16777216), bof (b / 4294967296), bof (b / 1099511627776), bof (b / 281474976710656), bof (b / 72057594037927936)] = tgn (a + b * 18446744073709551616 + c * 340282366920938463463374607431768211456) 16 := by
  simp only [tgn, show List.range 16 = [0, 1, 2, 3, 4, 5, 6, 7, 8, 9, 10, 11, 12, 13, 14, 15] from rfl, List.map_cons, List.map_nil, Int.reducePow]
  simp only [List.cons.injEq, and_true]
  refine ⟨?_, ?_, ?_, ?_, ?_, ?_, ?_, ?_, ?_, ?_, ?_, ?_, ?_, ?_, ?_, ?_⟩ <;> apply bof_eq <;> omega
theorem and_one (n : Nat) : n &&& 1152921487695413247 = n % 268435456 + n / 17179869184 % 67108864 * 17179869184 := by
  have h1 : (n &&& 1152921487695413247) % 2 ^ 34 = (n % 2 ^ 34) &&& (1152921487695413247 % 2 ^ 34) := Nat.and_mod_two_pow
  have h2 : (n &&& 1152921487695413247) / 2 ^ 34 = (n / 2 ^ 34) &&& (1152921487695413247 / 2 ^ 34) := Nat.and_div_two_pow
  have h3 : (n % 2 ^ 34) &&& (1152921487695413247 % 2 ^ 34) = n % 2 ^ 34 % 2 ^ 28 := by
    rw [show 1152921487695413247 % 2 ^ 34 = 2 ^ 28 - 1 from by decide, Nat.and_two_pow_sub_one_eq_mod]
  have h4 : (n / 2 ^ 34) &&& (1152921487695413247 / 2 ^ 34) = n / 2 ^ 34 % 2 ^ 26 := by
    rw [show 1152921487695413247 / 2 ^ 34 = 2 ^ 26 - 1 from by decide, Nat.and_two_pow_sub_one_eq_mod]
  rw [h3] at h1; rw [h4] at h2
  simp only [Nat.reducePow] at h1 h2
  omega
theorem and_two (n : Nat) : n &&& 1152921487695413244 = n / 4 % 67108864 * 4 + n / 17179869184 % 67108864 * 17179869184 := by
  have h0 : (n &&& 1152921487695413244) % 2 ^ 2 = (n % 2 ^ 2) &&& (1152921487695413244 % 2 ^ 2) := Nat.and_mod_two_pow
  have h0' : (n &&& 1152921487695413244) / 2 ^ 2 = (n / 2 ^ 2) &&& (1152921487695413244 / 2 ^ 2) := Nat.and_div_two_pow
  rw [show 1152921487695413244 % 2 ^ 2 = 0 from by decide, Nat.and_zero] at h0
  rw [show (1152921487695413244 : Nat) / 2 ^ 2 = 288230371923853311 from by decide] at h0'
  have h1 : (n / 2 ^ 2 &&& 288230371923853311) % 2 ^ 32 = (n / 2 ^ 2 % 2 ^ 32) &&& (288230371923853311 % 2 ^ 32) := Nat.and_mod_two_pow
  have h2 : (n / 2 ^ 2 &&& 288230371923853311) / 2 ^ 32 = (n / 2 ^ 2 / 2 ^ 32) &&& (288230371923853311 / 2 ^ 32) := Nat.and_div_two_pow
  rw [show 288230371923853311 % 2 ^ 32 = 2 ^ 26 - 1 from by decide, Nat.and_two_pow_sub_one_eq_mod] at h1
  rw [show 288230371923853311 / 2 ^ 32 = 2 ^ 26 - 1 from by decide, Nat.and_two_pow_sub_one_eq_mod] at h2
  simp only [Nat.reducePow] at h0 h0' h1 h2
  omega
theorem val_ge' {a : List Int} (ha : ∀ x ∈ a, (0 : Int) ≤ x) {i : Nat} {x : Int} (h : a[i]? = some x) : x * 256 ^ i ≤ val a := by
  have hlt := (List.getElem?_eq_some_iff.1 h).1
  have e1 := val_split a i (by omega); have e2 := val_drop h
  have b1 := val_nn (a := a.take i) (fun y hy => ha y (List.mem_of_mem_take hy)); have b2 := val_nn (a := a.drop (i + 1)) (fun y hy => ha y (List.mem_of_mem_drop hy))
  have p := pow256 i
  have : 0 ≤ 256 ^ i * (256 * val (a.drop (i + 1))) := Int.mul_nonneg (by omega) (by omega)
  rw [e1, e2, Int.mul_add, Int.mul_comm x]; omega
/-- how great the entries are while they are carried -/
def CB (o : List Int) (i : Nat) : Prop := ∀ (j : Nat) (z : Int), o[j]? = some z → 0 ≤ z ∧ z ≤ 35184372088832 ∧ (j < i → z ≤ 255) ∧ (i < j → z ≤ 17592186044416)
theorem carry_all {o : List Int} {i : Nat} {x y : Int} (hx : o[i]? = some x) (hy : o[i + 1]? = some y) (h : CB o i) : CB ((o.set (i + 1) (y + x / 256)).set i (x % 256)) (i + 1) := by
  intro j z hz
  have h1 := h i x hx; have h2 := h (i + 1) y hy
  rw [List.getElem?_set] at hz
  split at hz
  · next e => subst e; split at hz
              · simp at hz; subst hz; exact ⟨by omega, by omega, fun _ => by omega, fun h => by omega⟩
              · cases hz
  · next e =>
    rw [List.getElem?_set] at hz
    split at hz
    · next e => subst e; split at hz
                · simp at hz; subst hz; exact ⟨by omega, by omega, fun h => by omega, fun h => by omega⟩
                · cases hz
    · next e2 => have := h j z hz; exact ⟨this.1, this.2.1, fun h => this.2.2.1 (by omega), fun h => this.2.2.2 (by omega)⟩
theorem CB_of {o : List Int} {L : Int} (h : ∀ x ∈ o, 0 ≤ x ∧ x ≤ L) (hL : L ≤ 17592186044416) : CB o 0 := fun j z hz => by
  have := h z (List.mem_of_getElem? hz)
  exact ⟨by omega, by omega, fun h => by omega, fun h => by omega⟩
theorem mul_end {a b o : List Int} {i : Nat} (ha : dig a) (hb : dig b) (hl : o.length = a.length + b.length + 1) (hi : i = a.length + b.length) (hq : CB o i) (hv : val o = val a * val b) : dig o := by
  intro x hx
  obtain ⟨j, hj⟩ := List.mem_iff_getElem?.1 hx
  have h1 := hq j x hj
  have hlt := (List.getElem?_eq_some_iff.1 hj).1
  refine ⟨h1.1, ?_⟩
  by_cases hji : j < i
  · exact h1.2.2.1 hji
  · have ej : j = a.length + b.length := by omega
    have g := val_ge' (fun y hy => by obtain ⟨k, hk⟩ := List.mem_iff_getElem?.1 hy; exact (hq k y hk).1) hj
    have va := val_bd ha; have vb := val_bd hb
    rw [ej, Int.pow_add, hv] at g
    have pa := pow256 a.length; have pb := pow256 b.length
    have m1 : val a * val b ≤ (256 ^ a.length - 1) * (256 ^ b.length - 1) := Int.mul_le_mul (by omega) (by omega) (by omega) (by omega)
    have m2 : (256 ^ a.length - 1) * (256 ^ b.length - 1) < (256 : Int) ^ a.length * 256 ^ b.length := by
      generalize (256 : Int) ^ a.length = p at *; generalize (256 : Int) ^ b.length = q at *
      have : (p - 1) * (q - 1) = p * q - p - q + 1 := by grind
      omega
    have m3 : (1 : Int) ≤ 256 ^ a.length * 256 ^ b.length := by rw [← Int.pow_add]; exact pow256 _
    generalize (256 : Int) ^ a.length * 256 ^ b.length = P at *
    by_cases hx1 : x ≤ 255
    · exact hx1
    · have : 1 * P ≤ x * P := Int.mul_le_mul_of_nonneg_right (by omega) (by omega)
      omega
theorem set_ne {o : List Int} {i j : Nat} {x y z : Int} (h : i ≠ j) (hx : (o.set i y)[j]? = some x) (hz : o[j]? = some z) : x = z := by
  rw [List.getElem?_set_ne h, hz] at hx; exact (Option.some.inj hx).symm
theorem some_same {o : List Int} {j : Nat} {x z : Int} (hx : o[j]? = some x) (hz : o[j]? = some z) : x = z := by
  rw [hz] at hx; exact (Option.some.inj hx).symm
theorem high_len {a : List Int} (ha : dig a) (h : (1361129467683753853853498429727072845824 : Int) ≤ val a) : 16 < a.length := by
  have := high_end (a := a) ha
  by_cases hl : 16 < a.length
  · exact hl
  · have h2 := this (fun j x hj hx => by have := (List.getElem?_eq_some_iff.1 hx).1; omega)
    have h1 : decide (16 < (a.length : Int)) = false := by simp; omega
    rw [h1, decide_eq_true h] at h2; cases h2
theorem low_bd {a : List Int} (ha : dig a) (hl : 16 ≤ a.length) (x : Int) : 0 ≤ val (a.take 16 ++ [x % 4]) ∧ val (a.take 16 ++ [x % 4]) < 1361129467683753853853498429727072845824 := by
  have p16 : (256 : Int) ^ 16 = 340282366920938463463374607431768211456 := by decide
  have b := val_bd (dig_take ha 16)
  rw [List.length_take, Nat.min_eq_left hl, p16] at b
  rw [val_app, List.length_take, Nat.min_eq_left hl, p16]; simp only [val]; omega
theorem least_hit {a b : List Int} {x : Int} (hb : dig b) (hv : val b = val a + 5) (ha : val a < 1361129467683753853853498429727072845824) (h : (1361129467683753853853498429727072845824 : Int) ≤ val b) (hx : b[16]? = some x) :
    x = 4 ∧ val (b.set 16 (x - 4)) = val a % 1361129467683753853853498429727072845819 := by
  have p16 : (256 : Int) ^ 16 = 340282366920938463463374607431768211456 := by decide
  have d := val_digit hb 16
  rw [getD_of hx, p16] at d
  have e := val_set (y := x - 4) hx
  rw [p16] at e
  refine ⟨by omega, ?_⟩
  rw [e]; omega
def s16 (l : List Int) (i : Nat) : List Int := l.set i (l.getD i 0 % 16)
def s4 (l : List Int) (i : Nat) : List Int := l.set i (l.getD i 0 / 4 * 4)
theorem s16_of {l : List Int} {i : Nat} {x : Int} (h : l[i]? = some x) : l.set i (x % 16) = s16 l i := by rw [s16, getD_of h]
theorem s4_of {l : List Int} {i : Nat} {x : Int} (h : l[i]? = some x) : l.set i (x / 4 * 4) = s4 l i := by rw [s4, getD_of h]
theorem s16_len (l : List Int) (i : Nat) : (s16 l i).length = l.length := by simp [s16]
theorem s4_len (l : List Int) (i : Nat) : (s4 l i).length = l.length := by simp [s4]
theorem getD_dig {l : List Int} (h : dig l) (i : Nat) : 0 ≤ l.getD i 0 ∧ l.getD i 0 ≤ 255 := by
  rw [List.getD_eq_getElem?_getD]
  cases hx : l[i]? with
  | none => simp
  | some x => exact dig_get h hx
theorem s16_dig {l : List Int} (h : dig l) (i : Nat) : dig (s16 l i) := dig_set h i (by have := getD_dig h i; omega)
theorem s4_dig {l : List Int} (h : dig l) (i : Nat) : dig (s4 l i) := dig_set h i (by have := getD_dig h i; omega)
def rd (k : List UInt8) : List Int := s4 (s4 (s4 (s16 (s16 (s16 (s16 (nu (k.take 16)) 3) 7) 11) 15) 4) 8) 12
theorem rd_dig (k : List UInt8) : dig (rd k) := s4_dig (s4_dig (s4_dig (s16_dig (s16_dig (s16_dig (s16_dig (dig_num _) _) _) _) _) _) _) _
theorem ex_cons {l : List UInt8} {n : Nat} (h : l.length = n + 1) : ∃ a m, l = a :: m ∧ m.length = n := by
  cases l with
  | nil => simp at h
  | cons a m => exact ⟨a, m, rfl, by simpa using h⟩
theorem rd_val {k : List UInt8} (hk : 16 ≤ k.length) : val (rd k) = cl (num (k.take 16)) := by
  unfold rd
  have hl : (k.take 16).length = 16 := by simp; omega
  generalize k.take 16 = l at hl
  obtain ⟨a0, l0, rfl, h0⟩ := ex_cons hl
  obtain ⟨a1, l1, rfl, h1⟩ := ex_cons h0
  obtain ⟨a2, l2, rfl, h2⟩ := ex_cons h1
  obtain ⟨a3, l3, rfl, h3⟩ := ex_cons h2
  obtain ⟨a4, l4, rfl, h4⟩ := ex_cons h3
  obtain ⟨a5, l5, rfl, h5⟩ := ex_cons h4
  obtain ⟨a6, l6, rfl, h6⟩ := ex_cons h5
  obtain ⟨a7, l7, rfl, h7⟩ := ex_cons h6
  obtain ⟨a8, l8, rfl, h8⟩ := ex_cons h7
  obtain ⟨a9, l9, rfl, h9⟩ := ex_cons h8
  obtain ⟨a10, l10, rfl, h10⟩ := ex_cons h9
  obtain ⟨a11, l11, rfl, h11⟩ := ex_cons h10
  obtain ⟨a12, l12, rfl, h12⟩ := ex_cons h11
  obtain ⟨a13, l13, rfl, h13⟩ := ex_cons h12
  obtain ⟨a14, l14, rfl, h14⟩ := ex_cons h13
  obtain ⟨a15, l15, rfl, h15⟩ := ex_cons h14
  obtain rfl : l15 = [] := List.length_eq_zero_iff.1 h15
  have b0 := a0.toNat_lt; have b1 := a1.toNat_lt; have b2 := a2.toNat_lt; have b3 := a3.toNat_lt; have b4 := a4.toNat_lt; have b5 := a5.toNat_lt; have b6 := a6.toNat_lt; have b7 := a7.toNat_lt
  have b8 := a8.toNat_lt; have b9 := a9.toNat_lt; have b10 := a10.toNat_lt; have b11 := a11.toNat_lt; have b12 := a12.toNat_lt; have b13 := a13.toNat_lt; have b14 := a14.toNat_lt; have b15 := a15.toNat_lt
  clear hl h0 h1 h2 h3 h4 h5 h6 h7 h8 h9 h10 h11 h12 h13 h14 h15
  simp only [nu, s16, s4, List.map_cons, List.map_nil, List.set_cons_succ, List.set_cons_zero, List.getD_cons_succ, List.getD_cons_zero, val, num, bi, List.getD_nil]
  generalize a0.toNat = c0 at *; generalize a1.toNat = c1 at *; generalize a2.toNat = c2 at *; generalize a3.toNat = c3 at *; generalize a4.toNat = c4 at *; generalize a5.toNat = c5 at *; generalize a6.toNat = c6 at *; generalize a7.toNat = c7 at *
  generalize a8.toNat = c8 at *; generalize a9.toNat = c9 at *; generalize a10.toNat = c10 at *; generalize a11.toNat = c11 at *; generalize a12.toNat = c12 at *; generalize a13.toNat = c13 at *; generalize a14.toNat = c14 at *; generalize a15.toNat = c15 at *
  have e1 : cl ((c0 : Int) + c1 * 256 + c2 * 65536 + c3 * 16777216 + c4 * 4294967296 + c5 * 1099511627776 + c6 * 281474976710656 + c7 * 72057594037927936 + (c8 + c9 * 256 + c10 * 65536 + c11 * 16777216 + c12 * 4294967296 + c13 * 1099511627776 + c14 * 281474976710656 + c15 * 72057594037927936) * 18446744073709551616 + ((0 : UInt8).toNat : Int) * 340282366920938463463374607431768211456)
    = (c0 + c1 * 256 + c2 * 65536 + c3 % 16 * 16777216 + (c4 / 4 * 4 + c5 * 256 + c6 * 65536 + c7 % 16 * 16777216) * 4294967296) + (c8 / 4 * 4 + c9 * 256 + c10 * 65536 + c11 % 16 * 16777216 + (c12 / 4 * 4 + c13 * 256 + c14 * 65536 + c15 % 16 * 16777216) * 4294967296) * 18446744073709551616 := by
    have z : ((0 : UInt8).toNat : Int) = 0 := rfl
    rw [z]
    generalize hA : (c0 : Int) + c1 * 256 + c2 * 65536 + c3 * 16777216 + c4 * 4294967296 + c5 * 1099511627776 + c6 * 281474976710656 + c7 * 72057594037927936 = A
    generalize hB : (c8 : Int) + c9 * 256 + c10 * 65536 + c11 * 16777216 + c12 * 4294967296 + c13 * 1099511627776 + c14 * 281474976710656 + c15 * 72057594037927936 = B
    have bA : 0 ≤ A ∧ A < 18446744073709551616 := by omega
    have eB : (A + B * 18446744073709551616 + 0 * 340282366920938463463374607431768211456) / 18446744073709551616 = B := by omega
    have a1 : (A + B * 18446744073709551616 + 0 * 340282366920938463463374607431768211456) % 268435456 = c0 + c1 * 256 + c2 * 65536 + c3 % 16 * 16777216 := by omega
    have a2 : (A + B * 18446744073709551616 + 0 * 340282366920938463463374607431768211456) / 17179869184 % 67108864 * 17179869184 = (c4 / 4 * 4 + c5 * 256 + c6 * 65536 + c7 % 16 * 16777216) * 4294967296 := by omega
    have a3 : B / 4 % 67108864 * 4 = c8 / 4 * 4 + c9 * 256 + c10 * 65536 + c11 % 16 * 16777216 := by omega
    have a4 : B / 17179869184 % 67108864 * 17179869184 = (c12 / 4 * 4 + c13 * 256 + c14 * 65536 + c15 % 16 * 16777216) * 4294967296 := by omega
    unfold cl
    rw [eB, a1, a2, a3, a4]; omega
  rw [e1]; omega
theorem chunk_eq {t : List UInt8} {i E : Nat} (h : E = i + 16 ∨ (E = t.length ∧ t.length ≤ i + 16)) (hi : i ≤ t.length) : (t.take E).drop i = (t.drop i).take 16 := by
  rcases h with rfl | ⟨rfl, h⟩
  · rw [List.drop_take]; congr 1; omega
  · rw [List.take_length, List.take_of_length_le (by simp; omega)]
theorem nu_app (c : List UInt8) : nu (c ++ [1]) = nu c ++ [1] := by simp [nu]
theorem chunk_val {c : List UInt8} (hc : c.length ≤ 16) : val (nu c ++ [1]) = num (c ++ [1]) := by rw [num_val (by simp; omega), ← nu_app]; rfl
theorem num_nu {c : List UInt8} (hc : c.length ≤ 17) : val (nu c) = num c := (num_val hc).symm
theorem rd_len {k : List UInt8} (hk : 16 ≤ k.length) : (rd k).length = 16 := by simp only [rd, s4_len, s16_len, nu_len, List.length_take]; omega
theorem tgn_dig {o : List Int} (ho : dig o) {i : Nat} {x : Int} (h : o[i]? = some x) : tgn (val o) i ++ [bof x] = tgn (val o) (i + 1) := by
  rw [tgn_step]; congr 2; apply bof_eq
  have := val_digit ho i; rw [getD_of h] at this; omega
theorem tgn_nodig {o : List Int} (ho : dig o) {i : Nat} (h : o.length ≤ i) : tgn (val o) i ++ [(0 : UInt8)] = tgn (val o) (i + 1) := by
  rw [tgn_step]; congr 2
  have := val_digit ho i; rw [getD_no h] at this
  rw [show (0 : UInt8) = bof 0 from rfl]; apply bof_eq; omega
section
variable {P : Program} {E : Env} {w : World} {dst : Option Tmp} {ty t t2 : TypeId} {pos : String} {aft : Array Edge} {gd : Option (Nat × Bool)} {x y : Operand} {m n : Int}
theorem r_and1 (hx : ev E x = .int .u64 m) (hy : ev E y = .int .u64 1152921487695413247) (hm : 0 ≤ m ∧ m < 18446744073709551616) : Gives P E w ⟨dst, .binOp .and t x y t2, ty, pos, aft, gd⟩ (.int .u64 (m % 268435456 + m / 17179869184 % 67108864 * 17179869184)) w := by
  have h := r_andq (P := P) (w := w) (dst := dst) (ty := ty) (pos := pos) (aft := aft) (gd := gd) (t := t) (t2 := t2) (a := m.toNat) (b := 1152921487695413247) hx hy (by omega) (by rfl) (by omega) (by decide)
  rw [and_one] at h
  exact r_asn (by omega) h
theorem r_and2 (hx : ev E x = .int .u64 m) (hy : ev E y = .int .u64 1152921487695413244) (hm : 0 ≤ m ∧ m < 18446744073709551616) : Gives P E w ⟨dst, .binOp .and t x y t2, ty, pos, aft, gd⟩ (.int .u64 (m / 4 % 67108864 * 4 + m / 17179869184 % 67108864 * 17179869184)) w := by
  have h := r_andq (P := P) (w := w) (dst := dst) (ty := ty) (pos := pos) (aft := aft) (gd := gd) (t := t) (t2 := t2) (a := m.toNat) (b := 1152921487695413244) hx hy (by omega) (by rfl) (by omega) (by decide)
  rw [and_two] at h
  exact r_asn (by omega) h
end
theorem min_take {l : List UInt8} {n : Int} (h : n = if (l.length : Int) < 16 then (l.length : Int) else 16) : l.take n.toNat = l.take 16 := by
  split at h
  · subst h; rw [List.take_of_length_le (by omega), List.take_of_length_le (by omega)]
  · subst h; rfl
theorem min_drop {l : List UInt8} {n : Int} (h : n = if (l.length : Int) < 16 then (l.length : Int) else 16) : l.drop n.toNat = l.drop 16 := by
  split at h
  · subst h; rw [List.drop_eq_nil_of_le (by omega), List.drop_eq_nil_of_le (by omega)]
  · subst h; rfl

def accF (r : Int) : Nat → Int → List UInt8 → Int
  | 0, a, _ => a
  | n + 1, a, t => if t.length = 0 then a else accF r n ((a + num (t.take 16 ++ [1])) * r % 1361129467683753853853498429727072845819) (t.drop 16)
theorem accS_F (r : Int) : ∀ (n : Nat) (a : Int) (t : List UInt8), t.length ≤ n → accS r a t = accF r n a t
  | 0, a, t, h => by rw [accS, if_pos (by omega)]; rfl
  | n + 1, a, t, h => by
    rw [accF]
    by_cases h0 : t.length = 0
    · rw [if_pos h0, accS, if_pos h0]
    · rw [if_neg h0, accS_step r a (by omega), accS_F r n _ _ (by simp; omega)]
theorem ank_tag : tag [133, 214, 190, 120, 87, 85, 109, 51, 127, 68, 82, 254, 66, 213, 6, 168, 1, 3, 128, 138, 251, 13, 178, 253, 74, 191, 246, 175, 65, 73, 245, 27] [67, 114, 121, 112, 116, 111, 103, 114, 97, 112, 104, 105, 99, 32, 70, 111, 114, 117, 109, 32, 82, 101, 115, 101, 97, 114, 99, 104, 32, 71, 114, 111, 117, 112]
    = [168, 6, 29, 193, 48, 81, 54, 198, 194, 43, 139, 175, 12, 1, 39, 169] := by
  rw [tag, accS_F _ 34 _ _ (by decide)]
  decide +kernel
theorem tag_len (k t : List UInt8) : (tag k t).length = 16 := tgn_len _ _
theorem tgn_mod (V : Int) : tgn (V % 340282366920938463463374607431768211456) 16 = tgn V 16 := by
  simp only [tgn, show List.range 16 = [0, 1, 2, 3, 4, 5, 6, 7, 8, 9, 10, 11, 12, 13, 14, 15] from rfl, List.map_cons, List.map_nil, Int.reducePow]
  simp only [List.cons.injEq, and_true]
  refine ⟨?_, ?_, ?_, ?_, ?_, ?_, ?_, ?_, ?_, ?_, ?_, ?_, ?_, ?_, ?_, ?_⟩ <;> apply bof_eq <;> omega
/-- the bytes of sixteen bytes' number are they -/
theorem tgn_num {s : List UInt8} (hs : s.length = 16) : tgn (num s) 16 = s := by
  apply List.ext_getElem?
  intro i
  by_cases hi : i < 16
  · have h1 : (tgn (num s) 16)[i]? = some (bof (num s / 256 ^ i)) := by simp [tgn, hi]
    have h2 : s[i]? = some s[i] := List.getElem?_eq_getElem (by omega)
    rw [h1, h2]; congr 1
    have d := val_digit (dig_num s) i
    rw [getD_of (x := (s[i].toNat : Int)) (by simp [h2]), ← num_val (by omega)] at d
    have e : bof (num s / 256 ^ i) = bof (s[i].toNat : Int) := bof_eq (by omega)
    rw [e]
    have := s[i].toNat_lt
    apply UInt8.toNat_inj.1
    have b := bof_lt (m := (s[i].toNat : Int)) (by omega) (by omega)
    omega
  · rw [List.getElem?_eq_none (by rw [tgn_len]; omega), List.getElem?_eq_none (by omega)]
theorem accS_zero (t : List UInt8) : accS 0 0 t = 0 := by
  have : ∀ n, accF 0 n 0 t = 0 := by
    intro n
    induction n generalizing t with
    | zero => rfl
    | succ n ih => rw [accF]; split
                   · rfl
                   · rw [Int.mul_zero, Int.zero_emod]; exact ih _
  rw [accS_F _ t.length _ _ (Nat.le_refl _), this]
theorem tag_nought {s t : List UInt8} (hs : s.length = 16) : tag (List.replicate 16 0 ++ s) t = s := by
  have h1 : (List.replicate 16 (0 : UInt8) ++ s).take 16 = List.replicate 16 0 := by rw [List.take_left' (by simp)]
  have h2 : (List.replicate 16 (0 : UInt8) ++ s).drop 16 = s := by rw [List.drop_left' (by simp)]
  rw [tag, h1, h2, show cl (num (List.replicate 16 0)) = 0 from by decide, accS_zero, Int.zero_add, tgn_num hs]
theorem tag_nil {f a : List UInt8} (hf : f.length = 16) (ha : a.length = 16) : tag (f ++ a) [] = a := by
  rw [tag, accS_nil, Int.zero_add, List.drop_left' hf, tgn_num ha]
theorem div_next (V : Int) (i : Nat) : V / 256 ^ (i + 1) = V / 256 ^ i / 256 := by
  rw [Int.pow_succ, ← Int.ediv_ediv_of_nonneg (by have := pow256 i; omega)]
theorem sec_step {W U B c x b : Int} {i : Nat} (hc : c = W / 256 ^ i - U / 256 ^ i - B / 256 ^ i) (hx : x = U / 256 ^ i % 256) (hb : b = B / 256 ^ i % 256) :
    (c + x + b) % 256 = W / 256 ^ i % 256 ∧ (c + x + b) / 256 = W / 256 ^ (i + 1) - U / 256 ^ (i + 1) - B / 256 ^ (i + 1) := by
  rw [div_next, div_next, div_next]
  generalize W / 256 ^ i = w at *; generalize U / 256 ^ i = u at *; generalize B / 256 ^ i = v at *
  omega
theorem tgn_get {V : Int} {i : Nat} {u : UInt8} (h : (tgn V 16)[i]? = some u) : (u.toNat : Int) = V / 256 ^ i % 256 := by
  have hi : i < 16 := by
    have := (List.getElem?_eq_some_iff.1 h).1
    rwa [tgn_len] at this
  have h1 : (tgn V 16)[i]? = some (bof (V / 256 ^ i)) := by simp [tgn, hi]
  rw [h1] at h; cases h
  rw [← bof_mod]; exact bof_lt (by omega) (by omega)
theorem num_get {b : List UInt8} (hb : b.length ≤ 17) {i : Nat} {u : UInt8} (h : b[i]? = some u) : (u.toNat : Int) = num b / 256 ^ i % 256 := by
  have d := val_digit (dig_num b) i
  rw [getD_of (x := (u.toNat : Int)) (by simp [h]), ← num_val hb] at d
  exact d
theorem num_noget {b : List UInt8} (hb : b.length ≤ 17) {i : Nat} (h : b.length ≤ i) : (0 : Int) = num b / 256 ^ i % 256 := by
  have d := val_digit (dig_num b) i
  rw [getD_no (by simpa using h), ← num_val hb] at d
  exact d
theorem tag_app {f a t : List UInt8} (hf : f.length = 16) : tag (f ++ a) t = tgn (accS (cl (num f)) 0 t + num a) 16 := by
  rw [tag, List.take_left' hf, List.drop_left' hf]
theorem accS_one {t : List UInt8} (h0 : 0 < t.length) (h1 : t.length ≤ 15) : accS 1 0 t = num (t ++ [1]) := by
  have b := num_bd16 (b := t ++ [1]) (by simp; omega)
  have b2 := (num_bd (t ++ [1])).1
  rw [accS_step _ _ h0, List.take_of_length_le (by omega), List.drop_eq_nil_of_le (by omega), accS_nil]; omega
theorem tag_one {s t : List UInt8} (h0 : 0 < t.length) (h1 : t.length ≤ 15) : tag (([1] ++ List.replicate 15 (0 : UInt8)) ++ s) t = tgn (num (t ++ [1]) + num s) 16 := by
  rw [tag_app (by simp), show cl (num ([1] ++ List.replicate 15 (0 : UInt8))) = 1 from by decide, accS_one h0 h1]
/-- which bits of the key count -/
theorem cl_bi {l : List UInt8} (hl : l.length ≤ 16) : cl (num l) = (bi l 0 + bi l 1 * 256 + bi l 2 * 65536 + bi l 3 % 16 * 16777216 + (bi l 4 / 4 * 4 + bi l 5 * 256 + bi l 6 * 65536 + bi l 7 % 16 * 16777216) * 4294967296) + (bi l 8 / 4 * 4 + bi l 9 * 256 + bi l 10 * 65536 + bi l 11 % 16 * 16777216 + (bi l 12 / 4 * 4 + bi l 13 * 256 + bi l 14 * 65536 + bi l 15 % 16 * 16777216) * 4294967296) * 18446744073709551616 := by
  have := bi_lt l
  have b0 := this 0; have b1 := this 1; have b2 := this 2; have b3 := this 3; have b4 := this 4; have b5 := this 5; have b6 := this 6; have b7 := this 7
  have b8 := this 8; have b9 := this 9; have b10 := this 10; have b11 := this 11; have b12 := this 12; have b13 := this 13; have b14 := this 14; have b15 := this 15
  have b16 := bi_no (l := l) (i := 16) hl
  simp only [num, b16]
  generalize bi l 0 = c0 at *; generalize bi l 1 = c1 at *; generalize bi l 2 = c2 at *; generalize bi l 3 = c3 at *; generalize bi l 4 = c4 at *; generalize bi l 5 = c5 at *; generalize bi l 6 = c6 at *; generalize bi l 7 = c7 at *
  generalize bi l 8 = c8 at *; generalize bi l 9 = c9 at *; generalize bi l 10 = c10 at *; generalize bi l 11 = c11 at *; generalize bi l 12 = c12 at *; generalize bi l 13 = c13 at *; generalize bi l 14 = c14 at *; generalize bi l 15 = c15 at *
  clear this b16 hl
  generalize hA : (c0 : Int) + c1 * 256 + c2 * 65536 + c3 * 16777216 + c4 * 4294967296 + c5 * 1099511627776 + c6 * 281474976710656 + c7 * 72057594037927936 = A
  generalize hB : (c8 : Int) + c9 * 256 + c10 * 65536 + c11 * 16777216 + c12 * 4294967296 + c13 * 1099511627776 + c14 * 281474976710656 + c15 * 72057594037927936 = B
  have bA : 0 ≤ A ∧ A < 18446744073709551616 := by omega
  have eB : (A + B * 18446744073709551616 + 0 * 340282366920938463463374607431768211456) / 18446744073709551616 = B := by omega
  have a1 : (A + B * 18446744073709551616 + 0 * 340282366920938463463374607431768211456) % 268435456 = c0 + c1 * 256 + c2 * 65536 + c3 % 16 * 16777216 := by omega
  have a2 : (A + B * 18446744073709551616 + 0 * 340282366920938463463374607431768211456) / 17179869184 % 67108864 * 17179869184 = (c4 / 4 * 4 + c5 * 256 + c6 * 65536 + c7 % 16 * 16777216) * 4294967296 := by omega
  have a3 : B / 4 % 67108864 * 4 = c8 / 4 * 4 + c9 * 256 + c10 * 65536 + c11 % 16 * 16777216 := by omega
  have a4 : B / 17179869184 % 67108864 * 17179869184 = (c12 / 4 * 4 + c13 * 256 + c14 * 65536 + c15 % 16 * 16777216) * 4294967296 := by omega
  unfold cl
  rw [eB, a1, a2, a3, a4]; omega
theorem nu_map (l : List UInt8) : (nu l).map (Value.int .u8) = l.map byt := by simp [nu, byt]
theorem nu_back {l : List Int} (h : dig l) : nu (l.map bof) = l := by
  apply List.ext_getElem?
  intro i
  simp only [nu, List.map_map, List.getElem?_map]
  cases hx : l[i]? with
  | none => simp
  | some x =>
    have := dig_get h hx
    simp only [Option.map_some, Function.comp]
    congr 1
    exact bof_lt (by omega) (by omega)
theorem bi_nu (l : List UInt8) (i : Nat) : bi l i = (nu l).getD i 0 := by
  simp only [bi, nu, List.getD_eq_getElem?_getD, List.getElem?_map]
  cases l[i]? <;> rfl
theorem bi_take {l : List UInt8} {i n : Nat} (h : i < n) : bi (l.take n) i = bi l i := by
  simp [bi, List.getD_eq_getElem?_getD, List.getElem?_take, h]
/-- a byte xored with high bits alone, with low ones alone -/
def x8 (m n : Int) : Int := ((m.toNat ^^^ n.toNat : Nat) : Int)
def a8 (m : Int) (k : Nat) : Int := ((m.toNat &&& k : Nat) : Int)
theorem x8_hi {m n : Int} (hm : 0 ≤ m) : x8 m (a8 n 240) % 16 = m % 16 := by
  have h1 : (m.toNat ^^^ (n.toNat &&& 240)) % 2 ^ 4 = (m.toNat % 2 ^ 4) ^^^ ((n.toNat &&& 240) % 2 ^ 4) := Nat.xor_mod_two_pow
  have h2 : (n.toNat &&& 240) % 2 ^ 4 = (n.toNat % 2 ^ 4) &&& (240 % 2 ^ 4) := Nat.and_mod_two_pow
  rw [show 240 % 2 ^ 4 = 0 from by decide, Nat.and_zero] at h2
  rw [h2, Nat.xor_zero] at h1
  simp only [x8, a8, Int.toNat_natCast]
  omega
theorem x8_lo {m n : Int} (hm : 0 ≤ m) : x8 m (a8 n 3) / 4 = m / 4 := by
  have h1 : (m.toNat ^^^ (n.toNat &&& 3)) / 2 ^ 2 = (m.toNat / 2 ^ 2) ^^^ ((n.toNat &&& 3) / 2 ^ 2) := Nat.xor_div_two_pow
  have h2 : (n.toNat &&& 3) / 2 ^ 2 = (n.toNat / 2 ^ 2) &&& (3 / 2 ^ 2) := Nat.and_div_two_pow
  rw [show 3 / 2 ^ 2 = 0 from by decide, Nat.and_zero] at h2
  rw [h2, Nat.xor_zero] at h1
  simp only [x8, a8, Int.toNat_natCast]
  omega
theorem a8_bd {m : Int} (k : Nat) (h : 0 ≤ m ∧ m ≤ 255) : 0 ≤ a8 m k ∧ a8 m k ≤ 255 := by
  have : m.toNat &&& k ≤ m.toNat := Nat.and_le_left
  unfold a8; omega
theorem x8_bd {m n : Int} (h : 0 ≤ m ∧ m ≤ 255) (hn : 0 ≤ n ∧ n ≤ 255) : 0 ≤ x8 m n ∧ x8 m n ≤ 255 := by
  have : m.toNat ^^^ n.toNat < 2 ^ 8 := Nat.xor_lt_two_pow (by omega) (by omega)
  unfold x8; omega
section
variable {P : Program} {E : Env} {w : World} {dst : Option Tmp} {ty t t2 : TypeId} {pos : String} {aft : Array Edge} {gd : Option (Nat × Bool)} {x y : Operand} {m n : Int}
theorem r_and8 {k : Nat} (hx : ev E x = .int .u8 m) (hy : ev E y = .int .u8 n) (hn : n = k) (hk : k < 256) (hm : 0 ≤ m ∧ m ≤ 255) : Gives P E w ⟨dst, .binOp .and t x y t2, ty, pos, aft, gd⟩ (.int .u8 (a8 m k)) w := by
  subst hn
  exact r_andn (a := m.toNat) (by rw [hx, Int.toNat_of_nonneg hm.1]) hy (by simp [IntKind.signed, IntKind.bits]; omega) (by simp [IntKind.signed, IntKind.bits]; omega)
theorem r_xor8 (hx : ev E x = .int .u8 m) (hy : ev E y = .int .u8 n) (hm : 0 ≤ m ∧ m ≤ 255) (hn : 0 ≤ n ∧ n ≤ 255) : Gives P E w ⟨dst, .binOp .xor t x y t2, ty, pos, aft, gd⟩ (.int .u8 (x8 m n)) w := by
  exact r_xorn (a := m.toNat) (b := n.toNat) (by rw [hx, Int.toNat_of_nonneg hm.1]) (by rw [hy, Int.toNat_of_nonneg hn.1]) (by simp [IntKind.signed, IntKind.bits]; omega) (by simp [IntKind.signed, IntKind.bits]; omega)
end
end Go.Proofs.Ytlhaojpkejpgfaa
