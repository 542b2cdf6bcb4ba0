import Derived.Test.YtmalblpdkpjbcaaGreatQReplayReadersEcal
set_option linter.unusedVariables false
set_option linter.unusedSimpArgs false
namespace Go.Proofs.YtmalblpdkpjbcaaGreat
open Go.Ecal

def bsize (n : Int) : Int := if n < 0 ∨ 2046 < n then 0 else if n ≤ 62 then 64 else if n ≤ 126 then 128 else if n ≤ 254 then 256 else if n ≤ 510 then 512 else if n ≤ 1022 then 1024 else 2048
def bsizeE (n : Int) : Int := if n < 0 ∨ 2046 < n then 11 else 0
theorem bsize_facts (n : Int) (h0 : 0 ≤ n) (h : n ≤ 2046) : ∃ z, bsize n = z ∧ bsizeE n = 0 ∧ 64 ≤ z ∧ n + 2 ≤ z ∧ z ≤ 2048 ∧ z < 2 * n + 66 := by
  refine ⟨_, rfl, by simp [bsizeE]; omega, ?_⟩
  simp only [bsize]
  repeat' split
  all_goals omega
theorem bsize_no (n : Int) (h : n < 0 ∨ 2046 < n) : bsize n = 0 ∧ bsizeE n = 11 := by
  simp [bsize, bsizeE, h]
def bpad (b : List UInt8) : List UInt8 := bof ((b.length : Int) / 256) :: bof (b.length : Int) :: (b ++ List.replicate ((bsize b.length).toNat - 2 - b.length) 0)
theorem bpad_list (b : List UInt8) (z : Int) (hz : bsize b.length = z) (x y : UInt8) (hx : x = bof ((b.length : Int) / 256)) (hy : y = bof (b.length : Int)) (h : b.length + 2 ≤ z) :
    (((List.replicate z.toNat 0).set 0 x).set 1 y).take 2 ++ b ++ (((List.replicate z.toNat 0).set 0 x).set 1 y).drop (2 + b.length) = bpad b := by
  subst hx hy
  obtain ⟨n, hn⟩ : ∃ n, z.toNat = n + 2 := ⟨z.toNat - 2, by omega⟩
  rw [hn, List.replicate_succ, List.replicate_succ]
  simp only [bpad, hz, hn]
  simp [List.drop_replicate, Nat.add_comm 2 b.length]
theorem bpad_length (b : List UInt8) (z : Int) (hz : bsize b.length = z) (h : b.length + 2 ≤ z) : (bpad b).length = z.toNat := by
  simp [bpad, hz]; omega
def bnum (b : List UInt8) : Nat := (b.getD 0 0).toNat * 256 + (b.getD 1 0).toNat
def bstrip (b : List UInt8) : Option (List UInt8) :=
  if 64 ≤ b.length ∧ bsize (bnum b) = b.length ∧ (b.drop (2 + bnum b)).all (· == 0) = true then some ((b.drop 2).take (bnum b)) else none
theorem bnum_eq {b : List UInt8} {x y : UInt8} (h0 : b[(0 : Int).toNat]? = some x) (h1 : b[(1 : Int).toNat]? = some y) : (bnum b : Int) = (x.toNat : Int) * 256 + (y.toNat : Int) := by
  have h0' : b[0]? = some x := h0
  have h1' : b[1]? = some y := h1
  simp [bnum, List.getD, h0', h1']
theorem strip_short {b : List UInt8} (h : (b.length : Int) < 64) : bstrip b = none := by
  unfold bstrip; rw [if_neg]; omega
theorem strip_size {b : List UInt8} {n : Int} (hn : n = bnum b) (h : bsizeE n ≠ 0 ∨ bsize n ≠ b.length) : bstrip b = none := by
  subst hn
  unfold bstrip; rw [if_neg]
  intro ⟨h1, h2, _⟩
  rcases h with h | h
  · have : bsize (bnum b) = 0 := by
      simp only [bsizeE] at h; simp only [bsize]
      split at h <;> simp_all
    omega
  · exact h h2
theorem size_fits {b : List UInt8} {n : Int} (h0 : 0 ≤ n) (h64 : 64 ≤ b.length) (h : bsizeE n = 0) (h2 : bsize n = b.length) : n ≤ 2046 ∧ n + 2 ≤ b.length := by
  have h3 : n ≤ 2046 := by
    simp only [bsizeE] at h; split at h <;> omega
  obtain ⟨z, hz, _, _, h4, _⟩ := bsize_facts n h0 h3
  omega
theorem strip_tail {b : List UInt8} {k j : Nat} {c : UInt8} (hk : k = 2 + bnum b) (hc : (b.drop k)[j]? = some c) (hne : (c.toNat : Int) ≠ 0) : bstrip b = none := by
  subst hk
  unfold bstrip; rw [if_neg]
  intro ⟨_, _, h3⟩
  rw [List.all_eq_true] at h3
  have := h3 c (List.mem_of_getElem? hc)
  have hc0 : c = 0 := by simpa using this
  subst hc0
  exact hne rfl
theorem strip_good {b : List UInt8} {n : Int} {k : Nat} {i : Int} (hn : n = bnum b) (h64 : 64 ≤ b.length) (h2 : bsize n = b.length) (hk : k = 2 + bnum b) (hi : ((b.drop k).length : Int) ≤ i) (h : ((b.drop k).take i.toNat).all (· == 0) = true) :
    bstrip b = some ((b.drop 2).take (bnum b)) := by
  subst hn hk
  unfold bstrip; rw [if_pos]
  refine ⟨h64, h2, ?_⟩
  rwa [List.take_of_length_le (by omega)] at h
theorem bnum_cons (n : Nat) (h : n ≤ 2046) (l : List UInt8) : bnum (bof ((n : Int) / 256) :: bof (n : Int) :: l) = n := by
  have h1 := bof_lt (m := (n : Int) / 256) (by omega) (by omega)
  have h2 : (bof (n : Int)).toNat = n % 256 := by
    simp [bof]; omega
  simp [bnum]; omega
theorem bpad_most {b : List UInt8} (h : b.length ≤ 2046) : (bpad b).length ≤ 2048 := by
  obtain ⟨z, hz, _, h1, h2, h3, _⟩ := bsize_facts b.length (by omega) (by omega)
  have := bpad_length b z hz h2
  omega
theorem bpad_len {b : List UInt8} (h : b.length ≤ 2046) : ((bpad b).length : Int) = bsize b.length ∧ 64 ≤ (bpad b).length ∧ b.length + 2 ≤ (bpad b).length := by
  obtain ⟨z, hz, _, h1, h2, _⟩ := bsize_facts b.length (by omega) (by omega)
  have := bpad_length b z hz h2
  omega
theorem bpad_drop (b : List UInt8) : (bpad b).drop (2 + b.length) = List.replicate ((bsize b.length).toNat - 2 - b.length) 0 := by
  have : (bpad b).drop (2 + b.length) = (b ++ List.replicate ((bsize b.length).toNat - 2 - b.length) 0).drop b.length := by
    rw [Nat.add_comm]; rfl
  rw [this, List.drop_left]
theorem bstrip_bpad {b : List UInt8} (h : b.length ≤ 2046) : bstrip (bpad b) = some b := by
  have hn : bnum (bpad b) = b.length := bnum_cons b.length h _
  obtain ⟨h1, h2, h3⟩ := bpad_len h
  unfold bstrip
  rw [hn, if_pos]
  · congr 1
    show ((b ++ List.replicate ((bsize b.length).toNat - 2 - b.length) 0)).take b.length = b
    exact List.take_left
  · refine ⟨h2, h1.symm, ?_⟩
    rw [bpad_drop, List.all_eq_true]; intro c hc; simp [List.eq_of_mem_replicate hc]
theorem bsize_at {n z : Int} (hn : 0 ≤ n ∧ n ≤ 2046) (hz : z = 64 ∨ (z = 128 ∧ 62 < n) ∨ (z = 256 ∧ 126 < n) ∨ (z = 512 ∧ 254 < n) ∨ (z = 1024 ∧ 510 < n) ∨ (z = 2048 ∧ 1022 < n)) (h : n + 2 ≤ z) : bsize n = z := by
  unfold bsize
  repeat' split
  all_goals omega
def padB (l : List UInt8) : List UInt8 := if l.length ≤ 2046 then bpad l else []
theorem mq_or {x a b : UInt8} : x ||| (a ^^^ b) = 0 ↔ x = 0 ∧ a = b := by
  have h : ∀ y : UInt8, x ||| y = 0 ↔ x = 0 ∧ y = 0 := fun y => by
    rw [← UInt8.toNat_inj, ← UInt8.toNat_inj (a := x), ← UInt8.toNat_inj (a := y), UInt8.toNat_or]
    exact Nat.or_eq_zero_iff
  rw [h, UInt8.xor_eq_zero_iff]
theorem mq_next {l m : List UInt8} {j : Nat} {x a b : UInt8} (h : x = 0 ↔ l.take j = m.take j) (ha : l[j]? = some a) (hb : m[j]? = some b) : x ||| (a ^^^ b) = 0 ↔ l.take (j + 1) = m.take (j + 1) := by
  have h1 : (l.take j).length = (m.take j).length := by
    have := (List.getElem?_eq_some_iff.1 ha).1; have := (List.getElem?_eq_some_iff.1 hb).1
    simp; omega
  rw [mq_or, h, List.take_add_one, List.take_add_one, ha, hb]
  constructor
  · rintro ⟨h2, rfl⟩; rw [h2]
  · intro h2
    obtain ⟨h3, h4⟩ := List.append_inj h2 h1
    exact ⟨h3, by simpa using h4⟩
theorem mq_fin {l m : List UInt8} {j : Nat} {x : UInt8} (h : x = 0 ↔ l.take j = m.take j) (h1 : l.length ≤ j) (h2 : m.length ≤ j) : l = m ↔ (x.toNat : Int) = 0 := by
  rw [List.take_of_length_le h1, List.take_of_length_le h2] at h
  rw [← h, ← UInt8.toNat_inj]; simp
def stripE (l : List UInt8) : Int := if (bstrip l).isSome then 0 else 10
def stripB (l : List UInt8) : List UInt8 := (bstrip l).getD []
theorem strip_next {l : List UInt8} {j : Nat} {c : UInt8} (h : (l.take j).all (· == 0) = true) (hc : l[j]? = some c) (hz : ¬ (c.toNat : Int) ≠ 0) : (l.take (j + 1)).all (· == 0) = true := by
  have hcz : c = 0 := by
    apply UInt8.toNat.inj
    have : (c.toNat : Int) = 0 := by omega
    simpa using this
  rw [List.take_add_one, hc, List.all_append, h, hcz]; rfl
end Go.Proofs.YtmalblpdkpjbcaaGreat
