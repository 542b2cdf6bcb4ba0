/- Keys that are wrapped, and unwrapped; nonces. -/
import Derived.Test.YtdnlkkgbgjibgaaRing
set_option linter.unusedVariables false
set_option linter.unusedSimpArgs false
namespace Go.Proofs.Ytdnlkkgbgjibgaa
open Go.RowKit Go.Ecal
theorem num6 (a b c d e f : UInt8) : (numOf [a, b, c, d, e, f] : Int) = (((((a.toNat : Int) * 256 + b.toNat) * 256 + c.toNat) * 256 + d.toNat) * 256 + e.toNat) * 256 + f.toNat := by
  show (((((((0 * 256 + a.toNat) * 256 + b.toNat) * 256 + c.toNat) * 256 + d.toNat) * 256 + e.toNat) * 256 + f.toNat : Nat) : Int) = _
  omega
theorem numOf_be6 {n : Int} (h : 0 ≤ n ∧ n ≤ 1099511627776) : (numOf (be6 n) : Int) = n := by
  rw [be6, num6, bof_nat, bof_nat, bof_nat, bof_nat, bof_nat, bof_nat]
  omega
theorem be6_inj {n m : Int} (hn : 0 ≤ n ∧ n ≤ 1099511627776) (hm : 0 ≤ m ∧ m ≤ 1099511627776) : be6 n = be6 m ↔ n = m := by
  constructor
  · intro h
    have h1 := numOf_be6 hn; have h2 := numOf_be6 hm
    rw [h] at h1; omega
  · rintro rfl; rfl
theorem nonce_inj {a b c d : Int} (ha : 0 ≤ a ∧ a ≤ 1099511627776) (hb : 0 ≤ b ∧ b ≤ 1099511627776) (hc : 0 ≤ c ∧ c ≤ 1099511627776) (hd : 0 ≤ d ∧ d ≤ 1099511627776) : be6 a ++ be6 b = be6 c ++ be6 d ↔ a = c ∧ b = d := by
  rw [← be6_inj ha hc, ← be6_inj hb hd]
  exact ⟨fun h => List.append_inj h rfl, fun h => by rw [h.1, h.2]⟩
theorem nonceB_iff {a b c d : Int} (h : nonceOk a b = true) (k : nonceOk c d = true) : nonceB a b = nonceB c d ↔ a = c ∧ b = d := by
  have h1 := nonceOk_iff.1 h; have h2 := nonceOk_iff.1 k
  rw [nonceB, nonceB, if_pos h, if_pos k]
  exact nonce_inj (by omega) (by omega) (by omega) (by omega)
theorem nonceB_len {a b : Int} (h : nonceOk a b = true) : (nonceB a b).length = 12 := by rw [nonceB, if_pos h]; rfl
theorem derT_iff {s s' u u' : List UInt8} {n m : Int} (hn : 0 ≤ n ∧ n ≤ 1099511627776) (hm : 0 ≤ m ∧ m ≤ 1099511627776) (hu : u.length = u'.length) : derT s u n = derT s' u' m ↔ s = s' ∧ u = u' ∧ n = m := by
  rw [← be6_inj hn hm]
  simp only [derT, Thing.mk.injEq, true_and, and_true]
  exact ⟨fun h => ⟨h.1, List.append_inj h.2 hu⟩, fun h => ⟨h.1, by rw [h.2.1, h.2.2]⟩⟩
/-- Two keys, one after the other, are the same just if what they are of is. -/
theorem keys_iff {L M : List Thing} {s s' u u' : List UInt8} {n m : Int} (hl : (onceL (derT s u n) L ++ M).length ≤ 1000000) : keyFor L s u n = keyFor (onceL (derT s u n) L ++ M) s' u' m ↔ derT s u n = derT s' u' m := by
  have h1 := onceN_le (derT s u n) L
  have h2 := onceN_le (derT s' u' m) (onceL (derT s u n) L ++ M)
  have h3 : L.length ≤ (onceL (derT s u n) L ++ M).length := by obtain ⟨K, e⟩ := onceL_app (derT s u n) L; rw [e]; simp
  unfold keyFor
  rw [sign_iff (by omega) (by omega), two_once]; simp
theorem keys_iff0 {L : List Thing} {s s' u u' : List UInt8} {n m : Int} (hl : (onceL (derT s u n) L).length ≤ 1000000) : keyFor L s u n = keyFor (onceL (derT s u n) L) s' u' m ↔ derT s u n = derT s' u' m := by
  simpa using keys_iff (M := []) (by simpa using hl)
theorem At.iff {L : List Thing} {n : Int} {t u : Thing} (h : At L n t) : At L n u ↔ t = u := ⟨fun k => h.inj k, fun e => e ▸ h⟩
/-- What was wrapped is unwrapped by just that member, of just that epoch, with that secret. -/
theorem wrap_unwrap {L : List Thing} {s s' k : List UInt8} {w e w' e' : Int} (hl : L.length ≤ 900000) (hk : k.length = 32) (hw : spotW w e = true) (hw' : spotW w' e' = true) :
    unwrapO (wrapL L s w e k) s' w' e' (wrapB L s w e k) = if s = s' ∧ w = w' ∧ e = e' then some k else none := by
  have hE : wrapE w e k = 0 := by rw [wrapE, if_pos hw, if_pos hk]
  have r1 := spotW_iff.1 hw; have r2 := spotW_iff.1 hw'
  rw [wrapL, if_pos hE, wrapB, if_pos hE]
  have len1 := onceL_len (derT s uMember w) L
  have hat : At (onceL (derT s' uMember w') (onceL (derT s uMember w) L ++ [wrapT L s w e k])) (((onceL (derT s uMember w) L).length : Int) + 1) (wrapT L s w e k) := (last_at _ _).once _
  have hkeys := keys_iff (L := L) (M := [wrapT L s w e k]) (s := s) (s' := s') (u := uMember) (u' := uMember) (n := w) (m := w') (by simp; omega)
  rw [derT_iff (by omega) (by omega) rfl] at hkeys
  have hnon := nonce_inj (a := 0) (b := e) (c := 0) (d := e') (by omega) (by omega) (by omega) (by omega)
  unfold unwrapO
  by_cases hc : s = s' ∧ w = w' ∧ e = e'
  · obtain ⟨rfl, rfl, rfl⟩ := hc
    have : openOf (onceL (derT s uMember w) (onceL (derT s uMember w) L ++ [wrapT L s w e k])) (keyFor (onceL (derT s uMember w) L ++ [wrapT L s w e k]) s uMember w) (be6 0 ++ be6 e) uWrap (boxOf (((onceL (derT s uMember w) L).length : Int) + 1) 32) = some k := by
      rw [← hk]
      refine open_box ?_ (by omega)
      rw [← hkeys.2 ⟨rfl, rfl, rfl⟩]
      exact hat
    rw [this]; simp [hk]
  · rw [if_neg hc]
    cases ho : openOf (onceL (derT s' uMember w') (onceL (derT s uMember w) L ++ [wrapT L s w e k])) (keyFor (onceL (derT s uMember w) L ++ [wrapT L s w e k]) s' uMember w') (be6 0 ++ be6 e') uWrap (boxOf (((onceL (derT s uMember w) L).length : Int) + 1) 32) with
    | none => rfl
    | some y =>
      exfalso
      obtain ⟨m, ha, hb⟩ := open_is ho
      have h1 := ha.1
      have hlt := (List.getElem?_eq_some_iff.1 ha.2).1
      have hlen := onceL_len (derT s' uMember w') (onceL (derT s uMember w) L ++ [wrapT L s w e k])
      have hm : ((onceL (derT s uMember w) L).length : Int) + 1 = m := ((box_iff (by omega) (by simp at hlen; omega)).1 hb).1
      rw [← hm] at ha
      have e1 := hat.inj ha
      simp only [wrapT, Thing.mk.injEq, true_and] at e1
      obtain ⟨a1, a2, _, _⟩ := e1
      have b1 := hkeys.1 a1
      have b2 := hnon.1 a2
      exact hc ⟨b1.1, b1.2.2, b2.2⟩
theorem newest0 {k : List UInt8} {n : Int} (h : Newest (ring0 k) n) : n = 0 := by
  obtain ⟨h0, h1, h2, _⟩ := h
  by_cases hn : n = 0
  · exact hn
  · exfalso; apply h2
    rw [keyAt, if_pos ⟨h0, h1⟩, ring0]
    obtain ⟨q, hq⟩ : ∃ q, n.toNat = q + 1 := ⟨n.toNat - 1, by omega⟩
    rw [hq]
    simp only [List.getD, List.getElem?_cons_succ, List.getElem?_replicate]
    split <;> rfl
end Go.Proofs.Ytdnlkkgbgjibgaa
