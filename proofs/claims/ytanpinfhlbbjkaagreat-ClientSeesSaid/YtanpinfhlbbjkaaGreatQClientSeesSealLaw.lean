import Derived.Test.YtanpinfhlbbjkaaGreatQClientSeesEntLaw
set_option linter.unusedVariables false
set_option linter.unusedSimpArgs false
namespace Go.Proofs.YtanpinfhlbbjkaaGreat
open Go.RowKit Go.Ecal
abbrev twoT (a b : List UInt8) : List UInt8 := (be2 (a.length : Int) ++ a) ++ (be2 (b.length : Int) ++ b)
theorem twoT_len (a b : List UInt8) : (twoT a b).length = 4 + a.length + b.length := by
  simp only [twoT, List.length_append, show ∀ n : Int, (be2 n).length = 2 from fun _ => rfl]; omega
theorem inner_is {e : Entry} {m : List UInt8} (h : e.right = true) (hm : m.length ≤ 1000) :
    stripE (bpad (twoT e.encB m)) = 0 ∧ innerB (bpad (twoT e.encB m)) = e.encB ∧ innerT (bpad (twoT e.encB m)) = m ∧ yOk (bpad (twoT e.encB m)) = true ∧ decV (innerB (bpad (twoT e.encB m))) = e := by
  have hl := encB_len h
  have hb := bstrip_bpad (b := twoT e.encB m) (by rw [twoT_len]; omega)
  have hs : stripB (bpad (twoT e.encB m)) = twoT e.encB m := by rw [stripB, hb]; rfl
  have hE : stripE (bpad (twoT e.encB m)) = 0 := by rw [stripE, hb]; rfl
  have t1 := rd_txt (t := e.encB) (lo := 0) (hi := 4096) (x := be2 (m.length : Int) ++ m) (by omega) (by omega)
  have t2 := rd_txt (t := m) (lo := 0) (hi := 4096) (x := []) (by omega) (by omega)
  rw [List.append_nil] at t2
  have ha : twoT e.encB m = be2 (e.encB.length : Int) ++ (e.encB ++ (be2 (m.length : Int) ++ m)) := by rw [twoT, List.append_assoc]
  have hB : innerB (bpad (twoT e.encB m)) = e.encB := by rw [innerB, hs, ha, t1.1]
  have hT : innerT (bpad (twoT e.encB m)) = m := by rw [innerT, hs, ha, t1.2, t2.1]
  have hO : innerOk (bpad (twoT e.encB m)) = true := by rw [innerOk, hs, ha, t1.2, t2.2]; rfl
  refine ⟨hE, hB, hT, ?_, by rw [hB]; exact (dec_enc h).2⟩
  exact yyes ⟨hE, hO, by rw [hB]; exact (dec_enc h).1⟩
theorem nonce_rec {r : Record} (h : r.nums = true) : nonceB r.writer r.count = be6 r.writer ++ be6 r.count := by
  rw [nums_iff] at h; rw [nonceB, if_pos (nonceOk_iff.2 (by omega))]
/-- A record whose box holds an entry and some mark. -/
theorem open_two {M : List Thing} {s k m : List UInt8} {r : Record} {e : Entry} (h : e.right = true) (hm : m.length ≤ 1000) (hr : r.right = true) (hk : k.length = 32) (hw : e.writer = r.writer) (ho : opened M k r = some (bpad (twoT e.encB m))) :
    openRE M s k r = (if m = markB M s r.coll r.writer e.encB then 0 else 22) ∧ openRL M s k r = markL M s r.coll r.writer e.encB ∧ openRV M s k r = (if m = markB M s r.coll r.writer e.encB then e else entry0) := by
  obtain ⟨i1, i2, i3, i4, i5⟩ := inner_is h hm
  have hE : openRE M s k r = (if m = markB M s r.coll r.writer e.encB then 0 else 22) := by
    rw [openRE, if_pos hr, if_pos hk, ho]; dsimp only
    rw [openYE, if_pos i4, i5, if_pos hw, i3, i2]
  refine ⟨hE, ?_, ?_⟩
  · rw [openRL, if_pos hr, if_pos hk, ho]; dsimp only
    rw [openYL, if_pos ⟨i4, by rw [i5]; exact hw⟩, i2]
  · rw [openRV, hE]
    split
    · rw [if_pos rfl, ho]; dsimp only; rw [i5]
    · rw [if_neg (by decide)]
structure SealsOk (k : List UInt8) (r : Record) (e : Entry) : Prop where
  right : e.right = true
  writer : e.writer = r.writer
  key : k.length = 32
  nums : r.nums = true
  enc : 18 ≤ e.encB.length ∧ e.encB.length ≤ 1000
theorem seals_ok {k : List UInt8} {r : Record} {e : Entry} (h : sealRE k r e = 0) : SealsOk k r e := by
  have hr : e.right = true := by
    cases q : e.right with
    | true => rfl
    | false => rw [sealRE, encE_wrong q, if_pos (by decide)] at h; cases h
  rw [sealRE_is hr] at h
  have h1 : e.writer = r.writer := by
    by_cases q : e.writer = r.writer
    · exact q
    · rw [if_pos q] at h; cases h
  rw [if_neg (fun q => q h1)] at h
  have h2 : k.length = 32 := by
    by_cases q : k.length = 32
    · exact q
    · rw [if_pos q] at h; cases h
  rw [if_neg (fun q => q h2)] at h
  have h3 : r.nums = true := by
    cases q : r.nums with
    | true => rfl
    | false => rw [q, if_pos rfl] at h; cases h
  exact ⟨hr, h1, h2, h3, encB_len hr⟩
theorem seals_fine {k : List UInt8} {r : Record} {e : Entry} (h : SealsOk k r e) : sealRE k r e = 0 := by
  obtain ⟨h1, h2, h3, h4, h5⟩ := h
  rw [sealRE_is h1, if_neg (fun q => q h2), if_neg (fun q => q h3), if_neg (by rw [h4]; decide)]
  obtain ⟨z, _, hz, _⟩ := bsize_facts ((e.encB.length + 36 : Nat) : Int) (by omega) (by omega)
  exact hz
theorem padB_twoT {a b : List UInt8} (h : (twoT a b).length ≤ 2046) : padB (twoT a b) = bpad (twoT a b) := if_pos h
theorem box_right {r : Record} {l : List UInt8} {n : Int} (hn : r.nums = true) (hl : l.length ≤ 2046) : ({ r with box := boxOf n (bpad l).length } : Record).right = true := by
  have hb := bpad_len hl
  have hm := bpad_most hl
  rw [right_iff]
  refine ⟨hn, ?_⟩
  simp only [box_len]; omega
/-- What was sealed is opened, as it was, whatever came in between. -/
theorem seal_open {L M X : List Thing} {s k : List UInt8} {r : Record} {e : Entry} (h : sealRE k r e = 0) (hM : M = sealRL L s k r e ++ X) (hl : M.length ≤ 1000000) :
    openRE M s k (sealRR L s k r e) = 0 ∧ openRV M s k (sealRR L s k r e) = e ∧ openRL M s k (sealRR L s k r e) = M := by
  have ho := seals_ok h
  obtain ⟨h1, h2, h3, h4, h5⟩ := ho
  have hp : plainB L s r e = twoT e.encB (markB L s r.coll r.writer e.encB) := plainB_eq h1
  have hpl : (twoT e.encB (markB L s r.coll r.writer e.encB)).length ≤ 2046 := by rw [twoT_len, markB_len]; omega
  have hR : sealRR L s k r e = { r with box := boxOf (((markL L s r.coll r.writer e.encB).length : Int) + 1) (bpad (twoT e.encB (markB L s r.coll r.writer e.encB))).length } := by
    rw [sealRR, if_pos h, hp, padB_twoT hpl]
  have hL : sealRL L s k r e = markL L s r.coll r.writer e.encB ++ [tBox k (be6 r.writer ++ be6 r.count) r.front (bpad (twoT e.encB (markB L s r.coll r.writer e.encB)))] := by
    rw [sealRL, if_pos h, sealRT, nonce_rec h4, hp, padB_twoT hpl]
  have hlen : (markL L s r.coll r.writer e.encB).length + 1 ≤ 1000000 := by
    have := congrArg List.length hM
    rw [hL] at this; simp only [List.length_append, List.length_cons, List.length_nil] at this; omega
  have hopen : opened M k (sealRR L s k r e) = some (bpad (twoT e.encB (markB L s r.coll r.writer e.encB))) := by
    rw [hR]
    show openOf M k (nonceB r.writer r.count) r.front _ = _
    rw [nonce_rec h4]
    exact open_box (by rw [hM, hL]; exact (last_at _ _).app X) (by omega)
  have hag := mark_again (L := L) (M := M) (s := s) (c := r.coll) (w := r.writer) (b := e.encB) (X := [tBox k (be6 r.writer ++ be6 r.count) r.front (bpad (twoT e.encB (markB L s r.coll r.writer e.encB)))] ++ X) (by rw [hM, hL, List.append_assoc])
  have hrr : (sealRR L s k r e).right = true := by rw [hR]; exact box_right h4 hpl
  have hc : (sealRR L s k r e).coll = r.coll ∧ (sealRR L s k r e).writer = r.writer := by rw [hR]; exact ⟨rfl, rfl⟩
  have ht := open_two (M := M) (s := s) (k := k) (r := sealRR L s k r e) h1 (by rw [markB_len]; decide) hrr h3 (by rw [hc.2]; exact h2) hopen
  rw [hc.1, hc.2, hag.1, hag.2, if_pos rfl, if_pos rfl] at ht
  exact ⟨ht.1, ht.2.2, ht.2.1⟩
theorem Texts.right {n : Nat} {L : List Thing} {s u : List UInt8} {w : Int} (h : Texts n L) (hu : u.length + 6 ≤ n) : Texts n (rightL L s u w) := by
  rw [rightL]; split
  · exact h.once (by simp only [List.length_append, be6_len]; exact hu)
  · exact h
theorem Texts.mark {n : Nat} {L : List Thing} {s b : List UInt8} {c w : Int} (h : Texts n L) (hn : 8196 ≤ n) : Texts n (markL L s c w b) := by
  rw [markL]
  exact (h.right (by rw [show uWriter.length = 6 from rfl]; omega)).once (Nat.le_trans (putB_le _) (by simpa using hn))
theorem Texts.sealR {n : Nat} {L : List Thing} {s k : List UInt8} {r : Record} {e : Entry} (h : Texts n L) (hn : 8196 ≤ n) : Texts n (sealRL L s k r e) := by
  rw [sealRL]; split
  · exact (h.mark hn).snoc (Nat.le_trans (padB_len _) (by omega))
  · exact h
theorem sealRL_len (L : List Thing) (s k : List UInt8) (r : Record) (e : Entry) : (sealRL L s k r e).length ≤ L.length + 3 := by
  rw [sealRL]; split
  · have := markL_len L s r.coll r.writer e.encB; simp only [List.length_append, List.length_cons, List.length_nil]; omega
  · omega
theorem Texts.le {n m : Nat} {L : List Thing} (h : Texts n L) (hn : n ≤ m) : Texts m L := fun t ht => Nat.le_trans (h t ht) hn
theorem plain_twoT {L : List Thing} {s : List UInt8} {r : Record} {e : Entry} (h : e.right = true) : padB (plainB L s r e) = bpad (twoT e.encB (markB L s r.coll r.writer e.encB)) := by
  have hl := encB_len h
  rw [show plainB L s r e = twoT e.encB (markB L s r.coll r.writer e.encB) from plainB_eq h, padB_twoT (by rw [twoT_len, markB_len]; omega)]
theorem sealRR_ok {L : List Thing} {s k : List UInt8} {r : Record} {e : Entry} (h : SealsOk k r e) : sealRR L s k r e = { r with box := boxOf (((markL L s r.coll r.writer e.encB).length : Int) + 1) (bpad (twoT e.encB (markB L s r.coll r.writer e.encB))).length } := by
  rw [sealRR, if_pos (seals_fine h), plain_twoT h.right]
end Go.Proofs.YtanpinfhlbbjkaaGreat
