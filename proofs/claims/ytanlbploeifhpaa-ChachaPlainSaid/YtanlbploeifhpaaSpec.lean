import Derived.Test.YtanlbploeifhpaaEcal
/-
  The document's answer for layer 3, in lists of whole numbers.
-/
set_option linter.unusedVariables false
set_option linter.unusedSimpArgs false
namespace Go.Proofs.Ytanlbploeifhpaa
open Go.RowKit Go.Ecal
def rl (x p : Int) : Int := x * p % 4294967296 + x * p / 4294967296
theorem rl_lt {x p : Int} (hx : 0 ≤ x ∧ x < 4294967296) (hp : p = 65536 ∨ p = 4096 ∨ p = 256 ∨ p = 128) : 0 ≤ rl x p ∧ rl x p < 4294967296 := by
  unfold rl; rcases hp with rfl | rfl | rfl | rfl <;> omega
theorem xr_lt32 {m n : Int} (hm : 0 ≤ m ∧ m < 4294967296) (hn : 0 ≤ n ∧ n < 4294967296) : 0 ≤ xr m n ∧ xr m n < 4294967296 := by
  simpa using xr_lt 32 (by simpa using hm) (by simpa using hn)
def OK (l : List Int) : Prop := l.length = 16 ∧ ∀ x ∈ l, 0 ≤ x ∧ x < 4294967296
theorem OK.get {l : List Int} (h : OK l) {j : Nat} {x : Int} (hx : l[j]? = some x) : 0 ≤ x ∧ x < 4294967296 := h.2 x (List.mem_of_getElem? hx)
theorem OK.getD {l : List Int} (h : OK l) (j : Nat) : 0 ≤ l.getD j 0 ∧ l.getD j 0 < 4294967296 := by
  rw [List.getD_eq_getElem?_getD]
  cases hx : l[j]? with
  | none => simp
  | some x => exact h.get hx
theorem OK.set {l : List Int} (h : OK l) (j : Nat) {x : Int} (hx : 0 ≤ x ∧ x < 4294967296) : OK (l.set j x) := by
  refine ⟨by simp [h.1], fun y hy => ?_⟩
  rcases List.mem_or_eq_of_mem_set hy with h1 | h1
  · exact h.2 y h1
  · subst h1; exact hx
def sa (l : List Int) (a b : Nat) : List Int := l.set a ((l.getD a 0 + l.getD b 0) % 4294967296)
def sx (l : List Int) (d a : Nat) (p : Int) : List Int := l.set d (rl (xr (l.getD d 0) (l.getD a 0)) p)
theorem OK.sa {l : List Int} (h : OK l) (a b : Nat) : OK (sa l a b) := h.set a (by omega)
theorem OK.sx {l : List Int} (h : OK l) (a b : Nat) {p : Int} (hp : p = 65536 ∨ p = 4096 ∨ p = 256 ∨ p = 128) : OK (sx l a b p) := h.set a (rl_lt (xr_lt32 (h.getD _) (h.getD _)) hp)
theorem sa_of {l : List Int} {a b : Nat} {x y : Int} (hx : l[a]? = some x) (hy : l[b]? = some y) : l.set a ((x + y) % 4294967296) = sa l a b := by simp [sa, List.getD_eq_getElem?_getD, hx, hy]
theorem sx_of {l : List Int} {d a : Nat} {x y p : Int} (hx : l[d]? = some x) (hy : l[a]? = some y) : l.set d (rl (xr x y) p) = sx l d a p := by simp [sx, List.getD_eq_getElem?_getD, hx, hy]
def qr (l : List Int) (a b c d : Nat) : List Int :=
  sx (sa (sx (sa (sx (sa (sx (sa l a b) d a 65536) c d) b c 4096) a b) d a 256) c d) b c 128
theorem OK.qr {l : List Int} (h : OK l) (a b c d : Nat) : OK (qr l a b c d) :=
  ((((((((h.sa _ _).sx _ _ (by decide)).sa _ _).sx _ _ (by decide)).sa _ _).sx _ _ (by decide)).sa _ _).sx _ _ (by decide))
def d4 (l : List Int) : Nat → List Int
  | 0 => l
  | n + 1 => qr (d4 l n) n (4 + n) (8 + n) (12 + n)
def dr (l : List Int) : List Int :=
  qr (qr (qr (qr (qr (qr (qr (qr l 0 4 8 12) 1 5 9 13) 2 6 10 14) 3 7 11 15) 0 5 10 15) 1 6 11 12) 2 7 8 13) 3 4 9 14
theorem OK.dr {l : List Int} (h : OK l) : OK (dr l) := (((((((h.qr _ _ _ _).qr _ _ _ _).qr _ _ _ _).qr _ _ _ _).qr _ _ _ _).qr _ _ _ _).qr _ _ _ _).qr _ _ _ _
def rnd (l : List Int) : Nat → List Int
  | 0 => l
  | n + 1 => dr (rnd l n)
theorem OK.rnd {l : List Int} (h : OK l) : ∀ n, OK (rnd l n)
  | 0 => h
  | n + 1 => (OK.rnd h n).dr
def wb (x : Int) : List UInt8 := [bof x, bof (x / 256), bof (x / 65536), bof (x / 16777216)]
def ser (s t : List Int) : Nat → List UInt8
  | 0 => []
  | n + 1 => ser s t n ++ wb ((t.getD n 0 + s.getD n 0) % 4294967296)
theorem ser_len (s t : List Int) (n : Nat) : (ser s t n).length = 4 * n := by
  induction n with
  | zero => rfl
  | succ n ih => simp [ser, ih, wb]; omega
def blk (s : List Int) : List UInt8 := ser s (rnd s 10) 16
theorem blk_len (s : List Int) : (blk s).length = 64 := ser_len _ _ _
def bi (l : List UInt8) (i : Nat) : Int := ((l.getD i 0).toNat : Int)
theorem bi_of {l : List UInt8} {i : Nat} {b : UInt8} (h : l[i]? = some b) : bi l i = (b.toNat : Int) := by simp [bi, List.getD_eq_getElem?_getD, h]
theorem bi_lt (l : List UInt8) (i : Nat) : 0 ≤ bi l i ∧ bi l i < 256 := by
  have := (l.getD i 0).toNat_lt; unfold bi; omega
def wd (l : List UInt8) (i : Nat) : Int := bi l i + bi l (i + 1) * 256 + bi l (i + 2) * 65536 + bi l (i + 3) * 16777216
theorem wd_lt (l : List UInt8) (i : Nat) : 0 ≤ wd l i ∧ wd l i < 4294967296 := by
  have h0 := bi_lt l i; have h1 := bi_lt l (i + 1); have h2 := bi_lt l (i + 2); have h3 := bi_lt l (i + 3)
  unfold wd; omega
theorem wd_drop (l : List UInt8) (i : Nat) : wd (l.drop i) 0 = wd l i := by
  simp [wd, bi, List.getD_eq_getElem?_getD]
def st (k : List UInt8) (c : Int) (n : List UInt8) : List Int :=
  [1634760805, 857760878, 2036477234, 1797285236, wd k 0, wd k 4, wd k 8, wd k 12, wd k 16, wd k 20, wd k 24, wd k 28, c, wd n 0, wd n 4, wd n 8]
theorem OK_st (k : List UInt8) {c : Int} (n : List UInt8) (hc : 0 ≤ c ∧ c < 4294967296) : OK (st k c n) := by
  refine ⟨rfl, fun x hx => ?_⟩
  simp only [st, List.mem_cons, List.not_mem_nil, or_false] at hx
  have hk := wd_lt k; have hn := wd_lt n
  rcases hx with h | h | h | h | h | h | h | h | h | h | h | h | h | h | h | h <;> rw [h]
  iterate 4 (exact ⟨by omega, by omega⟩)
  iterate 8 (exact hk _)
  exact hc
  iterate 3 (exact hn _)
def kb (k : List UInt8) (c : Int) (n : List UInt8) : List UInt8 := blk (st k c n)
theorem kb_len (k : List UInt8) (c : Int) (n : List UInt8) : (kb k c n).length = 64 := blk_len _
def chk (k n : List UInt8) (c : Int) : Int := if k.length ≠ 32 ∨ n.length ≠ 12 then 11 else if c < 0 ∨ 4294967295 < c then 12 else 0
theorem chk_ok {k n : List UInt8} {c : Int} (h : chk k n c = 0) : k.length = 32 ∧ n.length = 12 ∧ 0 ≤ c ∧ c < 4294967296 := by
  unfold chk at h; split at h
  · cases h
  · split at h
    · cases h
    · omega
theorem chk_of {k n : List UInt8} {c : Int} (h1 : k.length = 32) (h2 : n.length = 12) (h3 : 0 ≤ c ∧ c < 4294967296) : chk k n c = 0 := by
  unfold chk; rw [if_neg (by omega), if_neg (by omega)]
theorem chk_size {k n : List UInt8} {c : Int} (h : k.length ≠ 32 ∨ n.length ≠ 12) : chk k n c = 11 := by unfold chk; rw [if_pos h]
theorem chk_range {k n : List UInt8} {c : Int} (h : k.length = 32 ∧ n.length = 12) (h3 : c < 0 ∨ 4294967295 < c) : chk k n c = 12 := by unfold chk; rw [if_neg (by omega), if_pos h3]
/-- The stream's byte j, and what a text is xored to. -/
def ks (k : List UInt8) (c : Int) (n : List UInt8) (j : Nat) : UInt8 := (kb k ((c + j / 64) % 4294967296) n).getD (j % 64) 0
def xo (k : List UInt8) (c : Int) (n : List UInt8) (l : List UInt8) : List UInt8 := (List.range l.length).map fun j => l.getD j 0 ^^^ ks k c n j
theorem xo_len (k : List UInt8) (c : Int) (n : List UInt8) (l : List UInt8) : (xo k c n l).length = l.length := by simp [xo]
theorem xo_get {k : List UInt8} {c : Int} {n l : List UInt8} {j : Nat} {u : UInt8} (h : l[j]? = some u) : (xo k c n l)[j]? = some (u ^^^ ks k c n j) := by
  have hj : j < l.length := (List.getElem?_eq_some_iff.1 h).1
  simp [xo, List.getElem?_map, List.getElem?_range hj, List.getD_eq_getElem?_getD, h]
theorem xo_of {k : List UInt8} {c : Int} {n l o : List UInt8} (hl : o.length = l.length) (h : ∀ j u, j < l.length → l[j]? = some u → o[j]? = some (u ^^^ ks k c n j)) : o = xo k c n l := by
  apply List.ext_getElem?
  intro j
  by_cases hj : j < l.length
  · rw [h j _ hj (List.getElem?_eq_getElem hj), xo_get (List.getElem?_eq_getElem hj)]
  · rw [List.getElem?_eq_none (by omega), List.getElem?_eq_none (by rw [xo_len]; omega)]
theorem od_step {k n t ol : List UInt8} {c : Int} {i : Nat} {u0 b0 : UInt8} (hl : ol.length = t.length) (hod : ∀ j u, j < i → t[j]? = some u → ol[j]? = some (u ^^^ ks k c n j)) (hu : t[i]? = some u0)
    (hb : (kb k ((c + (i : Int) / 64) % 4294967296) n)[i % 64]? = some b0) : ∀ j u, j < i + 1 → t[j]? = some u → (ol.set i (u0 ^^^ b0))[j]? = some (u ^^^ ks k c n j) := by
  intro j u hj hu'
  have hi : i < t.length := (List.getElem?_eq_some_iff.1 hu).1
  by_cases he : j = i
  · subst he
    rw [hu] at hu'
    cases hu'
    rw [List.getElem?_set_self (by omega)]
    simp [ks, List.getD_eq_getElem?_getD, hb]
  · rw [List.getElem?_set_ne (by omega)]
    exact hod j u (by omega) hu'
theorem oa_step {k n t ol : List UInt8} {c : Int} {i : Nat} {u0 b0 : UInt8} (hl : ol.length = i) (hod : ∀ j u, j < i → t[j]? = some u → ol[j]? = some (u ^^^ ks k c n j)) (hu : t[i]? = some u0)
    (hb : (kb k ((c + (i : Int) / 64) % 4294967296) n)[i % 64]? = some b0) : ∀ j u, j < i + 1 → t[j]? = some u → (ol ++ [u0 ^^^ b0])[j]? = some (u ^^^ ks k c n j) := by
  intro j u hj hu'
  by_cases he : j = i
  · subst he
    rw [hu] at hu'
    cases hu'
    rw [← hl, List.getElem?_append_right (Nat.le_refl _)]
    subst hl
    simp [ks, List.getD_eq_getElem?_getD, hb]
  · rw [List.getElem?_append_left (by omega)]
    exact hod j u (by omega) hu'
def ankey : List UInt8 := (List.range 32).map UInt8.ofNat
abbrev annonce : List UInt8 := [0, 0, 0, 9, 0, 0, 0, 74, 0, 0, 0, 0]
theorem ank_of {l : List UInt8} (hl : l.length = 32) (h : ∀ j, j < 32 → l[j]? = some (UInt8.ofNat j)) : l = ankey := by
  apply List.ext_getElem?
  intro j
  by_cases hj : j < 32
  · rw [h j hj]; simp [ankey, List.getElem?_range hj]
  · rw [List.getElem?_eq_none (by omega), List.getElem?_eq_none (by simp [ankey]; omega)]
theorem ank_step {l : List UInt8} {i x : Int} (hl : l.length = 32) (h : ∀ j, j < i.toNat → l[j]? = some (UInt8.ofNat j)) (hi : 0 ≤ i ∧ i < 32) (hx : x = i + 1) : ∀ j, j < x.toNat → (l.set (i : Int).toNat (bof i))[j]? = some (UInt8.ofNat j) := by
  intro j hj
  by_cases he : j = i.toNat
  · subst he
    rw [List.getElem?_set_self (by omega)]
    simp [bof]; congr 1; omega
  · rw [List.getElem?_set_ne (by omega)]; exact h j (by omega)
theorem ank_chk : chk ankey annonce 1 = 0 := by decide
theorem ank_val : (kb ankey 1 annonce).take 8 = [16, 241, 231, 228, 209, 59, 89, 21] := by decide +kernel
theorem chk_cases (k n : List UInt8) (c : Int) : ((k.length ≠ 32 ∨ n.length ≠ 12) ∧ chk k n c = 11) ∨ ((k.length = 32 ∧ n.length = 12) ∧ (c < 0 ∨ 4294967295 < c) ∧ chk k n c = 12) ∨ ((k.length = 32 ∧ n.length = 12) ∧ (0 ≤ c ∧ c < 4294967296) ∧ chk k n c = 0) := by
  by_cases h : k.length ≠ 32 ∨ n.length ≠ 12
  · exact .inl ⟨h, chk_size h⟩
  · by_cases h2 : c < 0 ∨ 4294967295 < c
    · exact .inr (.inl ⟨by omega, h2, chk_range (by omega) h2⟩)
    · exact .inr (.inr ⟨by omega, by omega, chk_of (by omega) (by omega) (by omega)⟩)
theorem xo_xo (k : List UInt8) (c : Int) (n l : List UInt8) : xo k c n (xo k c n l) = l := by
  symm
  refine xo_of (xo_len _ _ _ _).symm fun j u hj hu => ?_
  rw [xo_len] at hj
  have h1 := xo_get (k := k) (c := c) (n := n) (List.getElem?_eq_getElem hj)
  rw [h1] at hu
  cases hu
  rw [List.getElem?_eq_getElem hj, UInt8.xor_assoc, UInt8.xor_self, UInt8.xor_zero]
theorem xo_take (k : List UInt8) (c : Int) (n l : List UInt8) (m : Nat) : xo k c n (l.take m) = (xo k c n l).take m := by
  symm
  refine xo_of (by simp [xo_len]) fun j u hj hu => ?_
  rw [List.length_take] at hj
  have hj1 : j < m := by omega
  rw [List.getElem?_take, if_pos hj1] at hu
  rw [List.getElem?_take, if_pos hj1]
  exact xo_get hu
theorem ks_add (k : List UInt8) (c : Int) (n : List UInt8) (a j : Nat) : ks k c n (64 * a + j) = ks k ((c + a) % 4294967296) n j := by
  unfold ks
  rw [show (64 * a + j) % 64 = j % 64 from by omega, show (c + ((64 * a + j : Nat) : Int) / 64) % 4294967296 = ((c + a) % 4294967296 + (j : Int) / 64) % 4294967296 from by omega]
theorem xo_cut (k : List UInt8) (c : Int) (n l : List UInt8) (a : Nat) (ha : 64 * a ≤ l.length) : xo k c n l = xo k c n (l.take (64 * a)) ++ xo k ((c + a) % 4294967296) n (l.drop (64 * a)) := by
  symm
  refine xo_of (by simp [xo_len]; omega) fun j u hj hu => ?_
  by_cases h : j < 64 * a
  · rw [List.getElem?_append_left (by rw [xo_len]; simp; omega)]
    exact xo_get (by rw [List.getElem?_take, if_pos h]; exact hu)
  · rw [List.getElem?_append_right (by rw [xo_len]; simp; omega), xo_len, List.length_take, Nat.min_eq_left ha]
    have h2 : (l.drop (64 * a))[j - 64 * a]? = some u := by rw [List.getElem?_drop, show 64 * a + (j - 64 * a) = j from by omega]; exact hu
    rw [xo_get h2]
    have := ks_add k c n a (j - 64 * a)
    rw [show 64 * a + (j - 64 * a) = j from by omega] at this
    rw [this]
theorem xo_mix {k : List UInt8} {c : Int} {n a b : List UInt8} {j : Nat} {x y u v : UInt8} (hx : (xo k c n a)[j]? = some x) (hy : (xo k c n b)[j]? = some y) (hu : a[j]? = some u) (hv : b[j]? = some v) : x ^^^ y = u ^^^ v := by
  rw [xo_get hu] at hx; rw [xo_get hv] at hy
  cases hx; cases hy
  generalize ks k c n j = s
  rw [UInt8.xor_assoc, UInt8.xor_comm s, UInt8.xor_assoc, UInt8.xor_self, UInt8.xor_zero]
theorem xo_zero (k : List UInt8) (c : Int) (n : List UInt8) (m : Nat) (hc : 0 ≤ c ∧ c + 8 < 4294967296) (hm : m ≤ 320) :
    xo k c n (List.replicate m 0) = (kb k c n ++ kb k (c + 1) n ++ kb k (c + 2) n ++ kb k (c + 3) n ++ kb k (c + 4) n).take m := by
  symm
  refine xo_of (by simp [kb_len]; omega) fun j u hj hu => ?_
  simp at hj
  rw [List.getElem?_replicate, if_pos hj] at hu
  cases hu
  rw [List.getElem?_take, if_pos hj, UInt8.zero_xor]
  unfold ks
  have hl := kb_len k
  have hg : ∀ (q : Int) (i : Nat), i < 64 → (kb k q n)[i]? = some ((kb k q n).getD i 0) := fun q i hi => by
    rw [List.getD_eq_getElem?_getD, List.getElem?_eq_getElem (by rw [hl]; exact hi)]; rfl
  have e : j / 64 = 0 ∨ j / 64 = 1 ∨ j / 64 = 2 ∨ j / 64 = 3 ∨ j / 64 = 4 := by omega
  have step : ∀ (A B : List UInt8), (A ++ B)[j]? = if j < A.length then A[j]? else B[j - A.length]? := fun A B => by rw [List.getElem?_append]
  simp only [step, List.length_append, hl]
  rcases e with e | e | e | e | e
  · rw [if_pos (by omega), if_pos (by omega), if_pos (by omega), if_pos (by omega), hg _ _ (by omega), show (c + (j : Int) / 64) % 4294967296 = c from by omega, show j % 64 = j from by omega]
  · rw [if_pos (by omega), if_pos (by omega), if_pos (by omega), if_neg (by omega), hg _ _ (by omega), show (c + (j : Int) / 64) % 4294967296 = c + 1 from by omega, show j % 64 = j - 64 from by omega]
  · rw [if_pos (by omega), if_pos (by omega), if_neg (by omega), hg _ _ (by omega), show (c + (j : Int) / 64) % 4294967296 = c + 2 from by omega, show j % 64 = j - (64 + 64) from by omega]
  · rw [if_pos (by omega), if_neg (by omega), hg _ _ (by omega), show (c + (j : Int) / 64) % 4294967296 = c + 3 from by omega, show j % 64 = j - (64 + 64 + 64) from by omega]
  · rw [if_neg (by omega), hg _ _ (by omega), show (c + (j : Int) / 64) % 4294967296 = c + 4 from by omega, show j % 64 = j - (64 + 64 + 64 + 64) from by omega]
end Go.Proofs.Ytanlbploeifhpaa
