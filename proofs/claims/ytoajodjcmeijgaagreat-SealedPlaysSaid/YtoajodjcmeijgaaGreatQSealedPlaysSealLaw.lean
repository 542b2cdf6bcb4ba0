import Derived.Test.YtoajodjcmeijgaaGreatQSealedPlaysEntLaw
set_option linter.unusedVariables false
set_option linter.unusedSimpArgs false
namespace Go.Proofs.YtoajodjcmeijgaaGreat
open Go.RowKit Go.Ecal
abbrev twoT (a b : List UInt8) : List UInt8 := (be2 (a.length : Int) ++ a) ++ (be2 (b.length : Int) ++ b)
theorem twoT_len (a b : List UInt8) : (twoT a b).length = 4 + a.length + b.length := by
  simp only [twoT, List.length_append, show ∀ n : Int, (be2 n).length = 2 from fun _ => rfl]; omega
theorem nonce_rec {r : Record} (h : r.nums = true) : nonceB r.writer r.count = be6 r.writer ++ be6 r.count := by
  rw [nums_iff] at h; rw [nonceB, if_pos (nonceOk_iff.2 (by omega))]
structure SealsOk (k : List UInt8) (r : Record) (e : Entry) : Prop where
  right : e.right = true
  writer : e.writer = r.writer
  key : k.length = 32
  nums : r.nums = true
  enc : 18 ≤ e.encB.length ∧ e.encB.length ≤ 1000
theorem seals_ok {k : List UInt8} {r : Record} {e : Entry} (h : sealRE k r e = 0) : SealsOk k r e := by
  have hr : e.right = true := by
    cases q : e.right with
    | true => rfl
    | false => rw [sealRE, encE_wrong q, if_pos (by decide)] at h; cases h
  rw [sealRE_is hr] at h
  have h1 : e.writer = r.writer := by
    by_cases q : e.writer = r.writer
    · exact q
    · rw [if_pos q] at h; cases h
  rw [if_neg (fun q => q h1)] at h
  have h2 : k.length = 32 := by
    by_cases q : k.length = 32
    · exact q
    · rw [if_pos q] at h; cases h
  rw [if_neg (fun q => q h2)] at h
  have h3 : r.nums = true := by
    cases q : r.nums with
    | true => rfl
    | false => rw [q, if_pos rfl] at h; cases h
  exact ⟨hr, h1, h2, h3, encB_len hr⟩
theorem seals_fine {k : List UInt8} {r : Record} {e : Entry} (h : SealsOk k r e) : sealRE k r e = 0 := by
  obtain ⟨h1, h2, h3, h4, h5⟩ := h
  rw [sealRE_is h1, if_neg (fun q => q h2), if_neg (fun q => q h3), if_neg (by rw [h4]; decide)]
  obtain ⟨z, _, hz, _⟩ := bsize_facts ((e.encB.length + 36 : Nat) : Int) (by omega) (by omega)
  exact hz
theorem padB_twoT {a b : List UInt8} (h : (twoT a b).length ≤ 2046) : padB (twoT a b) = bpad (twoT a b) := if_pos h
theorem front_le (r : Record) : r.front.length ≤ 16392 := by have := putB_le r.numParts; simpa [Record.front, Record.numParts] using this
theorem Texts.right {n : Nat} {L : List Thing} {s u : List UInt8} {w : Int} (h : Texts n L) (hu : u.length + 6 ≤ n) : Texts n (rightL L s u w) := by
  rw [rightL]; split
  · exact h.once (by simp only [List.length_append, be6_len]; exact hu)
  · exact h
theorem Texts.mark {n : Nat} {L : List Thing} {s b : List UInt8} {c w : Int} (h : Texts n L) (hn : 8196 ≤ n) : Texts n (markL L s c w b) := by
  rw [markL]
  exact (h.right (by rw [show uWriter.length = 6 from rfl]; omega)).once (Nat.le_trans (putB_le _) (by simpa using hn))
theorem Texts.sealR {n : Nat} {L : List Thing} {s k : List UInt8} {r : Record} {e : Entry} (h : Texts n L) (hn : 8196 ≤ n) : Texts n (sealRL L s k r e) := by
  rw [sealRL]; split
  · exact (h.mark hn).snoc (Nat.le_trans (padB_len _) (by omega))
  · exact h
theorem Texts.openR {n : Nat} {L : List Thing} {s k : List UInt8} {r : Record} (h : Texts n L) (hn : 8196 ≤ n) : Texts n (openRL L s k r) := by
  rw [openRL]; split
  · split
    · split
      · rw [openYL]; split
        · exact h.mark hn
        · exact h
      · exact h
    · exact h
  · exact h
theorem sealRL_len (L : List Thing) (s k : List UInt8) (r : Record) (e : Entry) : (sealRL L s k r e).length ≤ L.length + 3 := by
  rw [sealRL]; split
  · have := markL_len L s r.coll r.writer e.encB; simp only [List.length_append, List.length_cons, List.length_nil]; omega
  · omega
theorem openRL_len (L : List Thing) (s k : List UInt8) (r : Record) : (openRL L s k r).length ≤ L.length + 2 := by
  rw [openRL]; split
  · split
    · split
      · rw [openYL]; split
        · exact markL_len _ _ _ _ _
        · omega
      · omega
    · omega
  · omega
theorem Texts.le {n m : Nat} {L : List Thing} (h : Texts n L) (hn : n ≤ m) : Texts m L := fun t ht => Nat.le_trans (h t ht) hn
theorem mark_ref {L : List Thing} {s b : List UInt8} {c w : Int} (hw : rightW w = true) (hc : 0 ≤ c ∧ c ≤ 1099511627776) (hb : b.length ≤ 4096) :
    markB L s c w b = signOf 77 (onceN (tCode (keyFor L s uWriter w) (be6 c ++ (be2 (b.length : Int) ++ b))) (onceL (derT s uWriter w) L) : Int) ∧ markL L s c w b = onceL (tCode (keyFor L s uWriter w) (be6 c ++ (be2 (b.length : Int) ++ b))) (onceL (derT s uWriter w) L) := by
  have h1 : rightB L s uWriter w = keyFor L s uWriter w := by rw [rightB, if_pos hw]
  have h2 : rightL L s uWriter w = onceL (derT s uWriter w) L := by rw [rightL, if_pos hw]
  rw [markB, markL, markT, h1, h2, mark_putB hc hb]; exact ⟨rfl, rfl⟩
theorem size_ok {e : Entry} (h : e.right = true) : ¬ bsize ((e.encB.length : Int) + 36) = 0 := by
  have hl := encB_len h
  obtain ⟨z, hz, _, z64, _⟩ := bsize_facts ((e.encB.length : Int) + 36) (by omega) (by omega)
  omega
theorem decE_ok {b : List UInt8} : decE b = 0 ↔ decOk b = true := by rw [decE]; cases decOk b <;> simp
theorem plain_twoT {L : List Thing} {s : List UInt8} {r : Record} {e : Entry} (h : e.right = true) : padB (plainB L s r e) = bpad (twoT e.encB (markB L s r.coll r.writer e.encB)) := by
  have hl := encB_len h
  rw [show plainB L s r e = twoT e.encB (markB L s r.coll r.writer e.encB) from plainB_eq h, padB_twoT (by rw [twoT_len, markB_len]; omega)]
theorem sealRL_ok {L : List Thing} {s k : List UInt8} {r : Record} {e : Entry} (h : SealsOk k r e) : sealRL L s k r e = markL L s r.coll r.writer e.encB ++ [tBox k (be6 r.writer ++ be6 r.count) r.front (bpad (twoT e.encB (markB L s r.coll r.writer e.encB)))] := by
  rw [sealRL, if_pos (seals_fine h), sealRT, nonce_rec h.nums, plain_twoT h.right]
theorem sealRR_ok {L : List Thing} {s k : List UInt8} {r : Record} {e : Entry} (h : SealsOk k r e) : sealRR L s k r e = { r with box := boxOf (((markL L s r.coll r.writer e.encB).length : Int) + 1) (bpad (twoT e.encB (markB L s r.coll r.writer e.encB))).length } := by
  rw [sealRR, if_pos (seals_fine h), plain_twoT h.right]
end Go.Proofs.YtoajodjcmeijgaaGreat
