import Derived.Test.YtoajodjcmeijgaaGreatQSealedPlaysEcal
set_option linter.unusedVariables false
set_option linter.unusedSimpArgs false
namespace Go.Proofs.YtoajodjcmeijgaaGreat
open Go.Ecal

def bsize (n : Int) : Int := if n < 0 ∨ 2046 < n then 0 else if n ≤ 62 then 64 else if n ≤ 126 then 128 else if n ≤ 254 then 256 else if n ≤ 510 then 512 else if n ≤ 1022 then 1024 else 2048
def bsizeE (n : Int) : Int := if n < 0 ∨ 2046 < n then 11 else 0
theorem bsize_facts (n : Int) (h0 : 0 ≤ n) (h : n ≤ 2046) : ∃ z, bsize n = z ∧ bsizeE n = 0 ∧ 64 ≤ z ∧ n + 2 ≤ z ∧ z ≤ 2048 ∧ z < 2 * n + 66 := by
  refine ⟨_, rfl, by simp [bsizeE]; omega, ?_⟩
  simp only [bsize]
  repeat' split
  all_goals omega
theorem bsize_no (n : Int) (h : n < 0 ∨ 2046 < n) : bsize n = 0 ∧ bsizeE n = 11 := by
  simp [bsize, bsizeE, h]
def bpad (b : List UInt8) : List UInt8 := bof ((b.length : Int) / 256) :: bof (b.length : Int) :: (b ++ List.replicate ((bsize b.length).toNat - 2 - b.length) 0)
theorem bpad_list (b : List UInt8) (z : Int) (hz : bsize b.length = z) (x y : UInt8) (hx : x = bof ((b.length : Int) / 256)) (hy : y = bof (b.length : Int)) (h : b.length + 2 ≤ z) :
    (((List.replicate z.toNat 0).set 0 x).set 1 y).take 2 ++ b ++ (((List.replicate z.toNat 0).set 0 x).set 1 y).drop (2 + b.length) = bpad b := by
  subst hx hy
  obtain ⟨n, hn⟩ : ∃ n, z.toNat = n + 2 := ⟨z.toNat - 2, by omega⟩
  rw [hn, List.replicate_succ, List.replicate_succ]
  simp only [bpad, hz, hn]
  simp [List.drop_replicate, Nat.add_comm 2 b.length]
theorem bpad_length (b : List UInt8) (z : Int) (hz : bsize b.length = z) (h : b.length + 2 ≤ z) : (bpad b).length = z.toNat := by
  simp [bpad, hz]; omega
def bnum (b : List UInt8) : Nat := (b.getD 0 0).toNat * 256 + (b.getD 1 0).toNat
def bstrip (b : List UInt8) : Option (List UInt8) :=
  if 64 ≤ b.length ∧ bsize (bnum b) = b.length ∧ (b.drop (2 + bnum b)).all (· == 0) = true then some ((b.drop 2).take (bnum b)) else none
theorem bnum_eq {b : List UInt8} {x y : UInt8} (h0 : b[(0 : Int).toNat]? = some x) (h1 : b[(1 : Int).toNat]? = some y) : (bnum b : Int) = (x.toNat : Int) * 256 + (y.toNat : Int) := by
  have h0' : b[0]? = some x := h0
  have h1' : b[1]? = some y := h1
  simp [bnum, List.getD, h0', h1']
theorem strip_short {b : List UInt8} (h : (b.length : Int) < 64) : bstrip b = none := by
  unfold bstrip; rw [if_neg]; omega
theorem strip_size {b : List UInt8} {n : Int} (hn : n = bnum b) (h : bsizeE n ≠ 0 ∨ bsize n ≠ b.length) : bstrip b = none := by
  subst hn
  unfold bstrip; rw [if_neg]
  intro ⟨h1, h2, _⟩
  rcases h with h | h
  · have : bsize (bnum b) = 0 := by
      simp only [bsizeE] at h; simp only [bsize]
      split at h <;> simp_all
    omega
  · exact h h2
theorem size_fits {b : List UInt8} {n : Int} (h0 : 0 ≤ n) (h64 : 64 ≤ b.length) (h : bsizeE n = 0) (h2 : bsize n = b.length) : n ≤ 2046 ∧ n + 2 ≤ b.length := by
  have h3 : n ≤ 2046 := by
    simp only [bsizeE] at h; split at h <;> omega
  obtain ⟨z, hz, _, _, h4, _⟩ := bsize_facts n h0 h3
  omega
theorem strip_tail {b : List UInt8} {k j : Nat} {c : UInt8} (hk : k = 2 + bnum b) (hc : (b.drop k)[j]? = some c) (hne : (c.toNat : Int) ≠ 0) : bstrip b = none := by
  subst hk
  unfold bstrip; rw [if_neg]
  intro ⟨_, _, h3⟩
  rw [List.all_eq_true] at h3
  have := h3 c (List.mem_of_getElem? hc)
  have hc0 : c = 0 := by simpa using this
  subst hc0
  exact hne rfl
theorem strip_good {b : List UInt8} {n : Int} {k : Nat} {i : Int} (hn : n = bnum b) (h64 : 64 ≤ b.length) (h2 : bsize n = b.length) (hk : k = 2 + bnum b) (hi : ((b.drop k).length : Int) ≤ i) (h : ((b.drop k).take i.toNat).all (· == 0) = true) :
    bstrip b = some ((b.drop 2).take (bnum b)) := by
  subst hn hk
  unfold bstrip; rw [if_pos]
  refine ⟨h64, h2, ?_⟩
  rwa [List.take_of_length_le (by omega)] at h
theorem bof_hi {x y : UInt8} : bof (((x.toNat * 256 + y.toNat : Nat) : Int) / 256) = x := by
  have h1 := x.toNat_lt; have h2 := y.toNat_lt
  have e : ((x.toNat * 256 + y.toNat : Nat) : Int) / 256 = x.toNat := by omega
  rw [e]
  apply UInt8.toNat.inj
  have := bof_lt (m := (x.toNat : Int)) (by omega) (by omega)
  omega
theorem bof_lo {x y : UInt8} : bof ((x.toNat * 256 + y.toNat : Nat) : Int) = y := by
  have h1 := x.toNat_lt; have h2 := y.toNat_lt
  apply UInt8.toNat.inj
  have : (((x.toNat * 256 + y.toNat : Nat) : Int) % 256).toNat = y.toNat := by omega
  simp only [bof, this]
  simp
theorem all_zero {l : List UInt8} (h : l.all (· == 0) = true) : l = List.replicate l.length 0 := by
  rw [List.eq_replicate_iff]
  refine ⟨rfl, fun c hc => ?_⟩
  rw [List.all_eq_true] at h
  simpa using h c hc
theorem shape2 {b : List UInt8} (h64 : 64 ≤ b.length) : ∃ x y l, b = x :: y :: l ∧ bnum b = x.toNat * 256 + y.toNat := by
  match b, h64 with
  | x :: y :: l, _ => exact ⟨x, y, l, rfl, by simp [bnum]⟩
theorem bpad_bstrip {b : List UInt8} (h64 : 64 ≤ b.length) (hn : bnum b + 2 ≤ b.length) (h46 : bnum b ≤ 2046) : (bpad ((b.drop 2).take (bnum b)) = b → bstrip b = some ((b.drop 2).take (bnum b))) ∧ (bpad ((b.drop 2).take (bnum b)) ≠ b → bstrip b = none) := by
  obtain ⟨x, y, l, hb, hnum⟩ := shape2 h64
  generalize hN : bnum b = N at *
  subst hb
  simp only [List.length_cons] at h64 hn
  have hlen : (l.take N).length = N := by simp; omega
  have hpad : bpad (l.take N) = x :: y :: (l.take N ++ List.replicate ((bsize N).toNat - 2 - N) 0) := by
    simp only [bpad, hlen]
    subst hnum
    rw [bof_hi, bof_lo]
  have hd : (x :: y :: l).drop (2 + N) = l.drop N := by rw [Nat.add_comm]; rfl
  have key : bstrip (x :: y :: l) = if 64 ≤ (x :: y :: l).length ∧ bsize N = (x :: y :: l).length ∧ (l.drop N).all (· == 0) = true then some (l.take N) else none := by
    unfold bstrip; rw [hN, hd]; rfl
  constructor
  · intro h
    have h' : bpad (l.take N) = x :: y :: l := h
    rw [hpad] at h'
    have h2 : l.take N ++ List.replicate ((bsize N).toNat - 2 - N) 0 = l := by simpa using h'
    have h3 : l.drop N = List.replicate ((bsize N).toNat - 2 - N) 0 := by
      have := congrArg (List.drop N) h2
      rw [List.drop_append_of_le_length (by omega), List.drop_eq_nil_of_le (by omega)] at this
      simpa using this.symm
    rw [key, if_pos]
    · rfl
    · refine ⟨by simp; omega, ?_, ?_⟩
      · have hl := congrArg List.length h2
        simp only [List.length_append, hlen, List.length_replicate] at hl
        simp only [List.length_cons]
        obtain ⟨z, hz1, _, _, hz2, _⟩ := bsize_facts N (by omega) (by omega)
        omega
      · rw [h3, List.all_eq_true]; intro c hc; simp [List.eq_of_mem_replicate hc]
  · intro h
    rw [key, if_neg]
    intro ⟨_, h2, h3⟩
    apply h
    show bpad (l.take N) = x :: y :: l
    rw [hpad]
    have h4 := all_zero h3
    have : (l.drop N).length = (bsize N).toNat - 2 - N := by simp only [List.length_drop, h2, List.length_cons]; omega
    rw [this] at h4
    rw [← h4, List.take_append_drop]
theorem rstrip_big {b : List UInt8} {n : Int} (hn : n = bnum b) (h : (b.length : Int) < n + 2 ∨ bsize n = 0) : bstrip b = none := by
  subst hn
  unfold bstrip; rw [if_neg]
  intro ⟨h1, h2, _⟩
  rcases h with h | h
  · have h3 : ((bnum b : Nat) : Int) ≤ 2046 := by
      simp only [bsize] at h2; split at h2
      · omega
      · omega
    obtain ⟨z, hz1, _, _, hz2, _⟩ := bsize_facts (bnum b) (by omega) h3
    omega
  · omega
theorem bsize_ne {n : Int} (h : ¬ bsize n = 0) : 0 ≤ n ∧ n ≤ 2046 := by
  simp only [bsize] at h; split at h
  · exact absurd rfl h
  · omega
theorem bpad_most {b : List UInt8} (h : b.length ≤ 2046) : (bpad b).length ≤ 2048 := by
  obtain ⟨z, hz, _, h1, h2, h3, _⟩ := bsize_facts b.length (by omega) (by omega)
  have := bpad_length b z hz h2
  omega
theorem bsize_at {n z : Int} (hn : 0 ≤ n ∧ n ≤ 2046) (hz : z = 64 ∨ (z = 128 ∧ 62 < n) ∨ (z = 256 ∧ 126 < n) ∨ (z = 512 ∧ 254 < n) ∨ (z = 1024 ∧ 510 < n) ∨ (z = 2048 ∧ 1022 < n)) (h : n + 2 ≤ z) : bsize n = z := by
  unfold bsize
  repeat' split
  all_goals omega
def padB (l : List UInt8) : List UInt8 := if l.length ≤ 2046 then bpad l else []
theorem mq_or {x a b : UInt8} : x ||| (a ^^^ b) = 0 ↔ x = 0 ∧ a = b := by
  have h : ∀ y : UInt8, x ||| y = 0 ↔ x = 0 ∧ y = 0 := fun y => by
    rw [← UInt8.toNat_inj, ← UInt8.toNat_inj (a := x), ← UInt8.toNat_inj (a := y), UInt8.toNat_or]
    exact Nat.or_eq_zero_iff
  rw [h, UInt8.xor_eq_zero_iff]
theorem mq_next {l m : List UInt8} {j : Nat} {x a b : UInt8} (h : x = 0 ↔ l.take j = m.take j) (ha : l[j]? = some a) (hb : m[j]? = some b) : x ||| (a ^^^ b) = 0 ↔ l.take (j + 1) = m.take (j + 1) := by
  have h1 : (l.take j).length = (m.take j).length := by
    have := (List.getElem?_eq_some_iff.1 ha).1; have := (List.getElem?_eq_some_iff.1 hb).1
    simp; omega
  rw [mq_or, h, List.take_add_one, List.take_add_one, ha, hb]
  constructor
  · rintro ⟨h2, rfl⟩; rw [h2]
  · intro h2
    obtain ⟨h3, h4⟩ := List.append_inj h2 h1
    exact ⟨h3, by simpa using h4⟩
theorem mq_fin {l m : List UInt8} {j : Nat} {x : UInt8} (h : x = 0 ↔ l.take j = m.take j) (h1 : l.length ≤ j) (h2 : m.length ≤ j) : l = m ↔ (x.toNat : Int) = 0 := by
  rw [List.take_of_length_le h1, List.take_of_length_le h2] at h
  rw [← h, ← UInt8.toNat_inj]; simp
def stripE (l : List UInt8) : Int := if (bstrip l).isSome then 0 else 10
def stripB (l : List UInt8) : List UInt8 := (bstrip l).getD []
theorem strip_next {l : List UInt8} {j : Nat} {c : UInt8} (h : (l.take j).all (· == 0) = true) (hc : l[j]? = some c) (hz : ¬ (c.toNat : Int) ≠ 0) : (l.take (j + 1)).all (· == 0) = true := by
  have hcz : c = 0 := by
    apply UInt8.toNat.inj
    have : (c.toNat : Int) = 0 := by omega
    simpa using this
  rw [List.take_add_one, hc, List.all_append, h, hcz]; rfl
end Go.Proofs.YtoajodjcmeijgaaGreat
