/-
  A ring learns each epoch's key once, and keeps it; the first one it has from the beginning; its newest is the greatest of all.
  Its conditions: none: whatever the input, in whatever memory.
-/
import Derived.Test.YtdnlkkgbgjibgaaRows
import Derived.Test.YtdnlkkgbgjibgaaAnc
import Derived.Test.YtdnlkkgbgjibgaaMaps
import Derived.ProofKit
import Derived.OpenShut
import Derived.ShutString
import Derived.ChangeOld
set_option linter.unusedVariables false
set_option linter.unusedSimpArgs false
namespace Go.Proofs.Ytdnlkkgbgjibgaa.ringLearns
open Go.ChangeShapes Go.WideShapes Go.ChangeAt Go.RowKit Go.Ecal
open Go.ChangeMaps (open_string shut_string)
def Wants (ks : List (List UInt8)) (K : List (Int × List UInt8)) (n : Int) : Prop :=
  ks.length = 17 ∧ Newest ks n ∧ keyAt ks 0 ≠ [] ∧ Once K ∧ (∀ e, lkM K e = if 1 ≤ e ∧ e ≤ 16 ∧ keyAt ks e ≠ [] then some (keyAt ks e) else none) ∧ ∀ k ∈ ks, k.length ≤ 1000
theorem ring0_at {k : List UInt8} {m : Int} (h : 0 < m) : keyAt (ring0 k) m = [] := by
  rw [keyAt]
  split
  · obtain ⟨q, hq⟩ : ∃ q, m.toNat = q + 1 := ⟨m.toNat - 1, by omega⟩
    rw [hq, ring0]
    simp only [List.getD, List.getElem?_cons_succ, List.getElem?_replicate]
    split <;> rfl
  · rfl
theorem ring0_at0 {k : List UInt8} : keyAt (ring0 k) 0 = k := rfl
theorem wants0 {k : List UInt8} (h : k.length = 32) : Wants (ring0 k) [] 0 := by
  have hk : k ≠ [] := fun e => by rw [e] at h; cases h
  refine ⟨rfl, ⟨by omega, by omega, hk, fun m hm _ => ring0_at hm⟩, hk, List.Pairwise.nil, fun e => ?_, fun x hx => ?_⟩
  · rw [if_neg]; · rfl
    rintro ⟨h1, _, h2⟩; exact h2 (ring0_at (by omega))
  · rcases List.mem_cons.1 hx with rfl | hx
    · omega
    · rw [List.eq_of_mem_replicate hx]; simp
theorem Wants.kv {ks : List (List UInt8)} {K : List (Int × List UInt8)} {n : Int} (h : Wants ks K n) : ∀ p ∈ K, KV Try.prog 3 (encI p.1) := by
  intro p hp
  obtain ⟨_, _, _, _, h4, _⟩ := h
  have h5 : lkM K p.1 ≠ none := fun e => lkM_none.1 e p hp rfl
  rw [h4] at h5
  by_cases h6 : 1 ≤ p.1 ∧ p.1 ≤ 16 ∧ keyAt ks p.1 ≠ []
  · exact kv_int Try.underlying3 (by omega)
  · rw [if_neg h6] at h5; exact absurd rfl h5
theorem Wants.there {ks : List (List UInt8)} {K : List (Int × List UInt8)} {n e : Int} (h : Wants ks K n) (he : 1 ≤ e ∧ e ≤ 16) (hk : keyAt ks e ≠ []) : lkM K e = some (keyAt ks e) := by
  rw [h.2.2.2.2.1, if_pos ⟨he.1, he.2, hk⟩]
theorem Wants.gone {ks : List (List UInt8)} {K : List (Int × List UInt8)} {n e : Int} (h : Wants ks K n) (he : ¬ (1 ≤ e ∧ e ≤ 16) ∨ keyAt ks e = []) : lkM K e = none := by
  rw [h.2.2.2.2.1, if_neg]; rintro ⟨h1, h2, h3⟩; rcases he with he | he
  · exact he ⟨h1, h2⟩
  · exact h3 he
theorem Wants.at {ks : List (List UInt8)} {K : List (Int × List UInt8)} {n e : Int} (h : Wants ks K n) (he : 1 ≤ e ∧ e ≤ 16) : (lkM K e).getD [] = keyAt ks e := by
  by_cases hk : keyAt ks e = []
  · rw [h.gone (.inr hk), hk]; rfl
  · rw [h.there he hk]; rfl
theorem Wants.same {ks : List (List UInt8)} {e : Int} {k : List UInt8} (h : learnE ks e k ≠ 0) : learnK ks e k = ks := if_neg h
theorem Wants.new {ks : List (List UInt8)} {K : List (Int × List UInt8)} {n e : Int} {k : List UInt8} (h : Wants ks K n) (he : 1 ≤ e ∧ e ≤ 16) (hk : keyAt ks e = []) (hl : k.length = 32) (h0 : learnE ks e k = 0) : Wants (learnK ks e k) (K ++ [(e, k)]) (if n < e then e else n) := by
  have hg := h.gone (.inr hk)
  obtain ⟨h1, ⟨h2, h3, h4, h5⟩, h6, h7, h8, h9⟩ := h
  have hk2 : k ≠ [] := fun e => by rw [e] at hl; cases hl
  rw [learnK, if_pos h0]
  have hs : ∀ m, keyAt (ks.set e.toNat k) m = if m = e then k else keyAt ks m := fun m => keyAt_set h1 (by omega)
  refine ⟨by simpa using h1, ?_, ?_, h7.app hg, fun m => ?_, fun x hx => ?_⟩
  · split
    · refine ⟨by omega, by omega, by rw [hs, if_pos rfl]; exact hk2, fun m hm1 hm2 => ?_⟩
      rw [hs, if_neg (by omega)]; exact h5 m (by omega) hm2
    · refine ⟨h2, h3, ?_, fun m hm1 hm2 => ?_⟩
      · rw [hs]; split
        · exact hk2
        · exact h4
      · rw [hs, if_neg (by omega)]; exact h5 m hm1 hm2
  · rw [hs, if_neg (by omega)]; exact h6
  · rw [lkM_app hg, h8, hs]
    by_cases hm : m = e
    · subst hm; rw [if_pos rfl, if_pos rfl, if_pos ⟨he.1, he.2, hk2⟩]
    · simp only [if_neg hm]
  · rcases List.mem_or_eq_of_mem_set hx with hx | rfl
    · exact h9 x hx
    · omega
theorem Newest.one {ks : List (List UInt8)} {m n : Int} (h : Newest ks m) (k : Newest ks n) : m = n := by
  obtain ⟨a1, a2, a3, a4⟩ := h; obtain ⟨b1, b2, b3, b4⟩ := k
  rcases Int.lt_trichotomy m n with h | h | h
  · exact absurd (a4 n h b2) b3
  · exact h
  · exact absurd (b4 m h a2) a3
set_option maxRecDepth 100000 in
set_option maxHeartbeats 4000000 in
theorem RingLearns_w (v0 : Value) (secret : List UInt8) (v1 : Value) (epochs : (List Int)) (I : Gh) (R : List HP) (w : World) (S : Sat w I (R)) (Q0 : RoB I v0 secret) (Q1 : RoX I v1 intR epochs) : Ret Try.prog 7 [v0, v1] w fun v w' => ∃ J : Gh, Gh.le I J ∧ .bool true = v ∧ Sat w' J (R) := by
  have lq0 := RoB.le Q0 S.le
  have lq1 := XRow.le (Q1.row S.le)
  refine ret_E Try.func7 rfl Try.ntmps7 (by simp) ?_
  refine EC_seq ?_
  refine EC_reg ?_
  refine EL_val (.bool false) w rfl (r_assign rfl) ?_
  refine EL_nil ?_
  refine thn_n ?_
  refine EC_seq ?_
  refine EC_seq ?_
  refine EC_reg ?_
  refine EL_ret _ rfl Try.func8 rfl nm8 rfl (anchor_c I _ _ S) ?_
  rintro _ w11 ⟨I13, le14, rfl, S12⟩
  refine EL_val (.bool false) w11 rfl (r_dec (show (!true) = false from rfl) (r_not rfl)) ?_
  refine EL_nil ?_
  refine thn_n ?_
  refine EC_cond_false rfl ?_
  refine EC_skip ?_
  refine thn_n ?_
  refine EC_seq ?_
  refine EC_seq ?_
  refine EC_reg ?_
  refine EL_val v0 w11 rfl (r_move rfl) ?_
  refine EL_val (.int .i64 (secret.length : Int)) w11 rfl (lenB (r_len rfl (Q0 _ (Gh.le_trans le14 S12.le)) Try.underlying23)) ?_
  refine EL_val (.bool (decide (100 < (secret.length : Int)))) w11 rfl (r_gtr rfl rfl) ?_
  refine EL_val (.bool (decide (100 < (secret.length : Int)))) w11 rfl (r_move rfl) ?_
  refine EL_gite 23 rfl rfl rfl v1 rfl (fun g15 => r_move rfl) ?_
  refine EL_gite 23 rfl rfl rfl (.int .i64 (epochs.length : Int)) rfl (fun g16 => r_lenX (cond_of g16 rfl) (Q1.row (Gh.le_trans le14 S12.le)) Try.underlying40) ?_
  refine EL_gite 23 rfl rfl rfl (.bool (decide (30 < (epochs.length : Int)))) rfl (fun g17 => r_gtr (cond_of g17 rfl) rfl) ?_
  refine EL_val (.bool ((decide (100 < (secret.length : Int))) || (decide (30 < (epochs.length : Int))))) w11 rfl (r_or rfl rfl rfl) ?_
  refine EL_nil ?_
  refine thn_n ?_
  refine EC_cond (t := (decide (100 < (secret.length : Int))) || (decide (30 < (epochs.length : Int)))) rfl (fun h18 => ?_) (fun h18 => ?_)
  · simp only [Bool.and_eq_true, Bool.or_eq_true, Bool.not_eq_true', Bool.not_eq_false', decide_eq_true_eq, decide_eq_false_iff_not, Bool.and_eq_false_iff, Bool.or_eq_false_iff, Bool.not_eq_true, Bool.not_eq_false, bne_iff_ne, beq_iff_eq, beq_eq_false_iff_ne] at h18
    refine EC_seq ?_
    refine EC_reg ?_
    refine EL_val (.bool true) w11 rfl (r_assign rfl) ?_
    refine EL_nil ?_
    refine thn_n ?_
    refine EC_ret ?_
    refine thn_r ?_
    refine fin1 Try.results7 (show _ = .bool true from rfl) ⟨_, rfl, ?_⟩
    exact ⟨I13, le14, rfl, S12⟩
  · simp only [Bool.and_eq_true, Bool.or_eq_true, Bool.not_eq_true', Bool.not_eq_false', decide_eq_true_eq, decide_eq_false_iff_not, Bool.and_eq_false_iff, Bool.or_eq_false_iff, Bool.not_eq_true, Bool.not_eq_false, bne_iff_ne, beq_iff_eq, beq_eq_false_iff_ne] at h18
    refine EC_skip ?_
    refine thn_n ?_
    refine EC_seq ?_
    refine EC_reg ?_
    refine EL_ret _ rfl Try.func10 rfl nm10 rfl (Signs_c I13 _ _ S12) ?_
    rintro _ w19 ⟨p21, rfl, S20⟩
    refine EL_val p21 w19 rfl (r_assign rfl) ?_
    refine EL_nil ?_
    refine thn_n ?_
    refine EC_seq ?_
    refine EC_reg ?_
    refine EL_val p21 w19 rfl (r_move rfl) ?_
    refine EL_val v0 w19 rfl (r_move rfl) ?_
    refine EL_ret _ rfl Try.func19 rfl nm19 rfl (RNew_c p21 ([] : List Thing) v0 secret I13 _ _ S20 (Q0.up le14) (Nat.le_trans (Nat.le_refl _) (by first | decide | (simp; done) | omega | (simp; omega))) (by omega)) ?_
    rintro _ w22 ⟨r24, I25, le26, rfl, S23⟩
    refine EL_val r24 w22 rfl (r_assign rfl) ?_
    refine EL_nil ?_
    refine thn_n ?_
    refine EC_seq ?_
    refine EC_reg ?_
    refine EL_map rfl ?_
    intro b27 w28 k29 A30 B31
    have S32 : Sat w28 I25 (Mp b27 ([] : List (Value × Value)) :: RingP r24 (ring0 (keyFor ([] : List Thing) secret uEpoch 0)) :: Suite p21 (onceL (derT secret uEpoch 0) ([] : List Thing)) :: R) := S23.newM B31 A30 k29
    refine EL_val (.map (some b27)) w28 rfl (r_assign rfl) ?_
    refine EL_nil ?_
    refine thn_n ?_
    refine EC_seq ?_
    refine EC_reg ?_
    refine EL_val (.int .i64 0) w28 rfl (r_assign rfl) ?_
    refine EL_nil ?_
    refine thn_n ?_
    refine EC_seq ?_
    refine EC_seq ?_
    refine EC_reg ?_
    refine EL_val v1 w28 rfl (r_move rfl) ?_
    refine EL_val (.int .i64 (epochs.length : Int)) w28 rfl (r_lenX rfl (Q1.row (Gh.le_trans (Gh.le_trans le14 le26) S32.le)) Try.underlying40) ?_
    refine EL_val (.int .i64 0) w28 rfl (r_move rfl) ?_
    refine EL_nil ?_
    refine thn_n ?_
    refine EC_block ?_
    have S33 : Sat w28 I25 (Mp b27 ([] : List (Value × Value)) :: RingP r24 (ring0 (keyFor ([] : List Thing) secret uEpoch 0)) :: Suite p21 (onceL (derT secret uEpoch 0) ([] : List Thing)) :: R) := S32.cons_front (i := 0) rfl
    have S34 : Sat w28 I25 (Suite p21 (onceL (derT secret uEpoch 0) ([] : List Thing)) :: Mp b27 ([] : List (Value × Value)) :: RingP r24 (ring0 (keyFor ([] : List Thing) secret uEpoch 0)) :: R) := S33.cons_front (i := 2) rfl
    have S35 : Sat w28 I25 (RingP r24 (ring0 (keyFor ([] : List Thing) secret uEpoch 0)) :: Suite p21 (onceL (derT secret uEpoch 0) ([] : List Thing)) :: Mp b27 ([] : List (Value × Value)) :: R) := S34.cons_front (i := 2) rfl
    refine EC_loop (fun m' E' w' => ∃ j : Nat, ∃ L : List Thing, ∃ ks : List (List UInt8), ∃ K : List (Int × List UInt8), ∃ n : Int, ∃ J : Gh, m' = epochs.length - j ∧ E' 35 = .int .i64 (j : Int) ∧ E' 8 = .int .i64 n ∧ E' 5 = p21 ∧ E' 6 = r24 ∧ E' 7 = .map (some b27) ∧ E' 33 = v1 ∧ E' 34 = .int .i64 (epochs.length : Int) ∧ (j ≤ epochs.length) ∧ (L.length ≤ j + 1) ∧ (Wants ks K n) ∧ Gh.le I25 J ∧ Sat w' J (RingP r24 ks :: Suite p21 L :: Mp b27 (entM encI decS K) :: R)) _ ⟨0, onceL (derT secret uEpoch 0) ([] : List Thing), ring0 (keyFor ([] : List Thing) secret uEpoch 0), [], 0, I25, rfl, rfl, rfl, rfl, rfl, rfl, rfl, rfl, Nat.zero_le _, by have := onceL_len (derT secret uEpoch 0) []; simpa using this, wants0 rfl, (Gh.le_refl _), S35⟩ ?_
    rintro _ E36 w37 ⟨j, L, ks, K, n, I38, rfl, e39, e40, e41, e42, e43, e44, e45, hj, hL, hW, le46, S47⟩
    refine EC_seq ?_
    refine EC_reg ?_
    refine EL_val (.bool (decide ((j : Int) < (epochs.length : Int)))) w37 rfl (r_lss (by exact e39) (by exact e45)) ?_
    refine EL_nil ?_
    refine thn_n ?_
    refine EC_seq ?_
    refine EC_if (p := (j : Int) < (epochs.length : Int)) rfl (fun h48 => ?_) (fun h48 => ?_)
    · refine EC_skip ?_
      refine thn_n ?_
      refine EC_seq ?_
      refine EC_block ?_
      refine EC_seq ?_
      refine EC_reg ?_
      refine EL_val (ptr (blkOf v1) (offOf v1 + ((j : Int) : Int).toNat * 1)) w37 rfl (r_indexX (by exact e44) (Q1.row (Gh.le_trans (Gh.le_trans (Gh.le_trans le14 le26) le46) S47.le)) (by exact e39) (by omega) (by first | omega | (simp; omega) | simp) Try.underlying40 (by kernel_rfl)) ?_
      obtain ⟨a49, ha50⟩ := get_some (l := epochs) (j := ((j : Int) : Int).toNat) (by first | omega | (simp; omega) | simp)
      obtain ⟨cs51, hc52, he53⟩ := Q1.el ha50
      obtain ⟨rfl, r54⟩ := hc52
      refine EL_val (.int .i64 a49) w37 rfl (r_load0 rfl (he53 _ (Gh.le_trans (Gh.le_trans (Gh.le_trans le14 le26) le46) S47.le)) Try.underlying3 rfl) ?_
      refine EL_val (.int .i64 a49) w37 rfl (r_assign rfl) ?_
      refine EL_nil ?_
      refine thn_n ?_
      refine EC_seq ?_
      refine EC_reg ?_
      refine EL_val p21 w37 rfl (r_move (by exact e41)) ?_
      have S55 : Sat w37 I38 (Suite p21 L :: RingP r24 ks :: Mp b27 (entM encI decS K) :: R) := S47.cons_front (i := 1) rfl
      refine EL_ret _ rfl Try.func11 rfl nm11 rfl (Key_c p21 L I38 _ _ S55 (Nat.le_trans (Nat.le_refl _) (by first | decide | (simp; done) | omega | (simp; omega)))) ?_
      rintro _ w56 ⟨v58, rfl, S57⟩
      refine EL_val v58 w56 rfl (r_assign rfl) ?_
      refine EL_nil ?_
      refine thn_n ?_
      refine EC_seq ?_
      refine EC_reg ?_
      refine EL_val r24 w56 rfl (r_move (by exact e42)) ?_
      refine EL_val (.int .i64 a49) w56 rfl (r_move rfl) ?_
      refine EL_val v58 w56 rfl (r_move rfl) ?_
      obtain ⟨I59, le60, S61, H62⟩ : ∃ J : Gh, Gh.le I38 J ∧ Sat w56 J (Suite p21 (L ++ [tKey]) :: RingP r24 ks :: Mp b27 (entM encI decS K) :: R) ∧ Ro J v58 ((signOf 75 ((L.length : Int) + 1)).map byt) := S57.frz 0 rfl
      have S63 : Sat w56 I59 (RingP r24 ks :: Suite p21 (L ++ [tKey]) :: Mp b27 (entM encI decS K) :: R) := S61.cons_front (i := 1) rfl
      refine EL_ret _ rfl Try.func20 rfl nm20 rfl (Learn_c r24 ks a49 v58 (signOf 75 ((L.length : Int) + 1)) I59 _ _ S63 H62) ?_
      rintro _ w64 ⟨I66, le67, rfl, S65⟩
      refine EL_val (.int .i64 (learnE ks a49 (signOf 75 ((L.length : Int) + 1)))) w64 rfl (r_assign rfl) ?_
      refine EL_nil ?_
      refine thn_n ?_
      refine EC_seq ?_
      rcases (by by_cases h : 1 ≤ a49 ∧ a49 ≤ 16 <;> by_cases h2 : keyAt ks a49 = [] <;> simp [h, h2] <;> omega : (1 ≤ a49 ∧ a49 ≤ 16 ∧ keyAt ks a49 = []) ∨ (1 ≤ a49 ∧ a49 ≤ 16 ∧ keyAt ks a49 ≠ []) ∨ a49 < 1 ∨ 16 < a49) with hre | hre | hre | hre
      · have hlk := hW.gone (e := a49) (.inr hre.2.2)
        have hE : learnE ks a49 (signOf 75 ((L.length : Int) + 1)) = 0 := by rw [learnE, if_pos ⟨hre.1, hre.2.1⟩, if_pos (by rfl), hre.2.2]; rfl
        refine EC_reg ?_
        refine EL_val (.map (some b27)) w64 rfl (r_move (by exact e43)) ?_
        refine EL_val (.int .i64 a49) w64 rfl (r_move rfl) ?_
        obtain ⟨ar68, ck69, hm70, he71⟩ := S65.map 2 rfl
        refine EL_val (.tuple #[.string (str ([] : List UInt8)), .bool false]) w64 rfl ((r_lookK (enc := encI) (dec := decS) (z := []) (kk := a49) (Go.Maps.int_keyed Try.underlying3) Try.underlying43 (by kernel_rfl) rfl rfl hm70 he71 hW.2.2.2.1 (kv_int Try.underlying3 (by omega)) hW.kv (fun _ _ h => encI_inj h) hlk rfl)) ?_
        refine EL_val (.tuple #[.string (str ([] : List UInt8)), .bool false]) w64 rfl (r_move rfl) ?_
        refine EL_val (.string (str ([] : List UInt8))) w64 rfl (r_extract rfl rfl) ?_
        refine EL_val (.bool false) w64 rfl (r_extract rfl rfl) ?_
        refine EL_val (.string (str ([] : List UInt8))) w64 rfl (r_assign rfl) ?_
        refine EL_val (.bool false) w64 rfl (r_assign rfl) ?_
        refine EL_nil ?_
        refine thn_n ?_
        refine EC_block ?_
        refine EC_seq ?_
        refine EC_reg ?_
        refine EL_val (.int .i64 a49) w64 rfl (r_move rfl) ?_
        refine EL_val (.bool false) w64 rfl (r_dec (show (decide (a49 < 1)) = false from by simp; omega) (r_lss rfl rfl)) ?_
        refine EL_val (.bool false) w64 rfl (r_move rfl) ?_
        refine EL_gval 63 rfl rfl rfl rfl (.int .i64 a49) w64 rfl (r_move rfl) ?_
        refine EL_gval 63 rfl rfl rfl rfl (.bool false) w64 rfl (r_dec (show (decide (16 < a49)) = false from by simp; omega) (r_gtr rfl rfl)) ?_
        refine EL_val (.bool false) w64 rfl (r_pickF rfl rfl) ?_
        refine EL_val (.bool false) w64 rfl (r_assign rfl) ?_
        refine EL_nil ?_
        refine thn_n ?_
        refine EC_cond_false rfl ?_
        refine EC_seq ?_
        refine EC_reg ?_
        refine EL_val (.bool false) w64 rfl (r_move rfl) ?_
        refine EL_val (.bool false) w64 rfl (r_assign rfl) ?_
        refine EL_nil ?_
        refine thn_n ?_
        refine EC_cond_false rfl ?_
        refine EC_seq ?_
        refine EC_reg ?_
        refine EL_val (.map (some b27)) w64 rfl (r_move (by exact e43)) ?_
        refine EL_val (.int .i64 a49) w64 rfl (r_move rfl) ?_
        refine EL_val v58 w64 rfl (r_move rfl) ?_
        refine EL_val (.string (str (signOf 75 ((L.length : Int) + 1)))) w64 rfl (r_str rfl (H62 _ (Gh.le_trans le67 S65.le)) Try.underlying23 Try.underlying5 Try.underlying9) ?_
        refine EL_val (.int .i64 n) w64 rfl (r_move (by exact e40)) ?_
        refine EL_val (.int .i64 a49) w64 rfl (r_move rfl) ?_
        refine EL_int (if n < a49 then a49 else n) rfl (r_max rfl rfl) ?_
        intro x72 hx72
        obtain ⟨ar2, ck2, hm2, he2⟩ := S65.map 2 rfl
        refine EL_mapNewK (enc := encI) (dec := decS) (kk := a49) (u := (signOf 75 ((L.length : Int) + 1))) (Go.Maps.int_keyed Try.underlying3) Try.underlying43 rfl rfl rfl hm2 he2 (kv_int Try.underlying3 (by omega)) hW.kv (fun _ _ h => encI_inj h) hlk ?_
        intro w73 ar3 ck3 hm3 he3 G3
        have S74 : Sat w73 I66 (RingP r24 (learnK ks a49 (signOf 75 ((L.length : Int) + 1))) :: Suite p21 (L ++ [tKey]) :: Mp b27 (entM encI decS (K ++ [(a49, signOf 75 ((L.length : Int) + 1))])) :: R) := S65.mapW 2 rfl G3 hm3 he3
        refine EL_val (.int .i64 x72) w73 rfl (r_assign rfl) ?_
        refine EL_nil ?_
        refine thn_n ?_
        refine EC_seq ?_
        refine EC_reg ?_
        refine EL_val (.int .i64 (learnE ks a49 (signOf 75 ((L.length : Int) + 1)))) w73 rfl (r_move rfl) ?_
        refine EL_val (.bool false) w73 rfl (r_dec (show (decide ((learnE ks a49 (signOf 75 ((L.length : Int) + 1))) ≠ 0)) = false from by rw [hE]; rfl) (r_neq rfl rfl)) ?_
        refine EL_nil ?_
        refine thn_n ?_
        refine EC_cond_false rfl ?_
        refine EC_skip ?_
        refine inB_n ?_
        refine inB_n ?_
        refine thn_n ?_
        refine EC_reg ?_
        refine EL_int ((j : Int) + 1) rfl (r_addi (by exact e39) rfl (by omega)) ?_
        intro x75 hx75
        refine EL_val (.int .i64 x75) w73 rfl (r_move rfl) ?_
        refine EL_nil ?_
        refine thn_n ?_
        refine ⟨_, ?_, j + 1, L ++ [tKey], learnK ks a49 (signOf 75 ((L.length : Int) + 1)), K ++ [(a49, signOf 75 ((L.length : Int) + 1))], x72, I66, rfl, (Eq.trans (show _ = Value.int .i64 x75 from rfl) (congrArg _ (by omega))), rfl, (by exact e41), (by exact e42), (by exact e43), (by exact e44), (by exact e45), by omega, by simp; omega, (by rw [hx72]; exact hW.new ⟨hre.1, hre.2.1⟩ hre.2.2 rfl hE), (Gh.le_trans (Gh.le_trans le46 le60) le67), S74⟩
        first | omega | (simp; omega)
      · have hlk := hW.there (e := a49) ⟨hre.1, hre.2.1⟩ hre.2.2
        have hE : learnE ks a49 (signOf 75 ((L.length : Int) + 1)) = 31 := by rw [learnE, if_pos ⟨hre.1, hre.2.1⟩, if_pos (by rfl), if_neg (fun h => hre.2.2 (List.isEmpty_iff.1 h))]
        refine EC_reg ?_
        refine EL_val (.map (some b27)) w64 rfl (r_move (by exact e43)) ?_
        refine EL_val (.int .i64 a49) w64 rfl (r_move rfl) ?_
        obtain ⟨ar76, ck77, hm78, he79⟩ := S65.map 2 rfl
        refine EL_val (.tuple #[.string (str (keyAt ks a49)), .bool true]) w64 rfl ((r_lookK (enc := encI) (dec := decS) (z := []) (kk := a49) (Go.Maps.int_keyed Try.underlying3) Try.underlying43 (by kernel_rfl) rfl rfl hm78 he79 hW.2.2.2.1 (kv_int Try.underlying3 (by omega)) hW.kv (fun _ _ h => encI_inj h) hlk rfl)) ?_
        refine EL_val (.tuple #[.string (str (keyAt ks a49)), .bool true]) w64 rfl (r_move rfl) ?_
        refine EL_val (.string (str (keyAt ks a49))) w64 rfl (r_extract rfl rfl) ?_
        refine EL_val (.bool true) w64 rfl (r_extract rfl rfl) ?_
        refine EL_val (.string (str (keyAt ks a49))) w64 rfl (r_assign rfl) ?_
        refine EL_val (.bool true) w64 rfl (r_assign rfl) ?_
        refine EL_nil ?_
        refine thn_n ?_
        refine EC_block ?_
        refine EC_seq ?_
        refine EC_reg ?_
        refine EL_val (.int .i64 a49) w64 rfl (r_move rfl) ?_
        refine EL_val (.bool false) w64 rfl (r_dec (show (decide (a49 < 1)) = false from by simp; omega) (r_lss rfl rfl)) ?_
        refine EL_val (.bool false) w64 rfl (r_move rfl) ?_
        refine EL_gval 63 rfl rfl rfl rfl (.int .i64 a49) w64 rfl (r_move rfl) ?_
        refine EL_gval 63 rfl rfl rfl rfl (.bool false) w64 rfl (r_dec (show (decide (16 < a49)) = false from by simp; omega) (r_gtr rfl rfl)) ?_
        refine EL_val (.bool false) w64 rfl (r_pickF rfl rfl) ?_
        refine EL_val (.bool false) w64 rfl (r_assign rfl) ?_
        refine EL_nil ?_
        refine thn_n ?_
        refine EC_cond_false rfl ?_
        refine EC_seq ?_
        refine EC_reg ?_
        refine EL_val (.bool true) w64 rfl (r_move rfl) ?_
        refine EL_val (.bool true) w64 rfl (r_assign rfl) ?_
        refine EL_nil ?_
        refine thn_n ?_
        refine EC_cond_true rfl ?_
        refine EC_seq ?_
        refine EC_reg ?_
        refine EL_val (.int .i64 (learnE ks a49 (signOf 75 ((L.length : Int) + 1)))) w64 rfl (r_move rfl) ?_
        refine EL_val (.bool false) w64 rfl (r_dec (show (decide ((learnE ks a49 (signOf 75 ((L.length : Int) + 1))) ≠ 31)) = false from by rw [hE]; rfl) (r_neq rfl rfl)) ?_
        refine EL_nil ?_
        refine thn_n ?_
        refine EC_cond_false rfl ?_
        refine EC_skip ?_
        refine inB_n ?_
        refine inB_n ?_
        refine thn_n ?_
        refine EC_reg ?_
        refine EL_int ((j : Int) + 1) rfl (r_addi (by exact e39) rfl (by omega)) ?_
        intro x80 hx80
        refine EL_val (.int .i64 x80) w64 rfl (r_move rfl) ?_
        refine EL_nil ?_
        refine thn_n ?_
        have q82 : learnK ks a49 (signOf 75 ((L.length : Int) + 1)) = ks := Wants.same (by rw [hE]; decide)
        have S81 : Sat w64 I66 (RingP r24 ks :: Suite p21 (L ++ [tKey]) :: Mp b27 (entM encI decS K) :: R) := S65.as 0 rfl (congrArg (fun zz => RingP r24 zz) q82)
        refine ⟨_, ?_, j + 1, L ++ [tKey], ks, K, n, I66, rfl, (Eq.trans (show _ = Value.int .i64 x80 from rfl) (congrArg _ (by omega))), (by exact e40), (by exact e41), (by exact e42), (by exact e43), (by exact e44), (by exact e45), by omega, by simp; omega, hW, (Gh.le_trans (Gh.le_trans le46 le60) le67), S81⟩
        first | omega | (simp; omega)
      · have hlk := hW.gone (e := a49) (.inl (by omega))
        have hE : learnE ks a49 (signOf 75 ((L.length : Int) + 1)) = 12 := by rw [learnE, if_neg (by omega)]
        refine EC_reg ?_
        refine EL_val (.map (some b27)) w64 rfl (r_move (by exact e43)) ?_
        refine EL_val (.int .i64 a49) w64 rfl (r_move rfl) ?_
        obtain ⟨ar83, ck84, hm85, he86⟩ := S65.map 2 rfl
        refine EL_val (.tuple #[.string (str ([] : List UInt8)), .bool false]) w64 rfl ((r_lookK (enc := encI) (dec := decS) (z := []) (kk := a49) (Go.Maps.int_keyed Try.underlying3) Try.underlying43 (by kernel_rfl) rfl rfl hm85 he86 hW.2.2.2.1 (kv_int Try.underlying3 (by omega)) hW.kv (fun _ _ h => encI_inj h) hlk rfl)) ?_
        refine EL_val (.tuple #[.string (str ([] : List UInt8)), .bool false]) w64 rfl (r_move rfl) ?_
        refine EL_val (.string (str ([] : List UInt8))) w64 rfl (r_extract rfl rfl) ?_
        refine EL_val (.bool false) w64 rfl (r_extract rfl rfl) ?_
        refine EL_val (.string (str ([] : List UInt8))) w64 rfl (r_assign rfl) ?_
        refine EL_val (.bool false) w64 rfl (r_assign rfl) ?_
        refine EL_nil ?_
        refine thn_n ?_
        refine EC_block ?_
        refine EC_seq ?_
        refine EC_reg ?_
        refine EL_val (.int .i64 a49) w64 rfl (r_move rfl) ?_
        refine EL_val (.bool true) w64 rfl (r_dec (show (decide (a49 < 1)) = true from by simp; omega) (r_lss rfl rfl)) ?_
        refine EL_val (.bool true) w64 rfl (r_move rfl) ?_
        refine EL_pass 63 rfl rfl rfl rfl rfl ?_
        refine EL_pass 63 rfl rfl rfl rfl rfl ?_
        refine EL_val (.bool true) w64 rfl (r_pickT rfl rfl) ?_
        refine EL_val (.bool true) w64 rfl (r_assign rfl) ?_
        refine EL_nil ?_
        refine thn_n ?_
        refine EC_cond_true rfl ?_
        refine EC_seq ?_
        refine EC_reg ?_
        refine EL_val (.int .i64 (learnE ks a49 (signOf 75 ((L.length : Int) + 1)))) w64 rfl (r_move rfl) ?_
        refine EL_val (.bool false) w64 rfl (r_dec (show (decide ((learnE ks a49 (signOf 75 ((L.length : Int) + 1))) ≠ 12)) = false from by rw [hE]; rfl) (r_neq rfl rfl)) ?_
        refine EL_nil ?_
        refine thn_n ?_
        refine EC_cond_false rfl ?_
        refine EC_skip ?_
        refine inB_n ?_
        refine inB_n ?_
        refine thn_n ?_
        refine EC_reg ?_
        refine EL_int ((j : Int) + 1) rfl (r_addi (by exact e39) rfl (by omega)) ?_
        intro x87 hx87
        refine EL_val (.int .i64 x87) w64 rfl (r_move rfl) ?_
        refine EL_nil ?_
        refine thn_n ?_
        have q89 : learnK ks a49 (signOf 75 ((L.length : Int) + 1)) = ks := Wants.same (by rw [hE]; decide)
        have S88 : Sat w64 I66 (RingP r24 ks :: Suite p21 (L ++ [tKey]) :: Mp b27 (entM encI decS K) :: R) := S65.as 0 rfl (congrArg (fun zz => RingP r24 zz) q89)
        refine ⟨_, ?_, j + 1, L ++ [tKey], ks, K, n, I66, rfl, (Eq.trans (show _ = Value.int .i64 x87 from rfl) (congrArg _ (by omega))), (by exact e40), (by exact e41), (by exact e42), (by exact e43), (by exact e44), (by exact e45), by omega, by simp; omega, hW, (Gh.le_trans (Gh.le_trans le46 le60) le67), S88⟩
        first | omega | (simp; omega)
      · have hlk := hW.gone (e := a49) (.inl (by omega))
        have hE : learnE ks a49 (signOf 75 ((L.length : Int) + 1)) = 12 := by rw [learnE, if_neg (by omega)]
        refine EC_reg ?_
        refine EL_val (.map (some b27)) w64 rfl (r_move (by exact e43)) ?_
        refine EL_val (.int .i64 a49) w64 rfl (r_move rfl) ?_
        obtain ⟨ar90, ck91, hm92, he93⟩ := S65.map 2 rfl
        refine EL_val (.tuple #[.string (str ([] : List UInt8)), .bool false]) w64 rfl ((r_lookK (enc := encI) (dec := decS) (z := []) (kk := a49) (Go.Maps.int_keyed Try.underlying3) Try.underlying43 (by kernel_rfl) rfl rfl hm92 he93 hW.2.2.2.1 (kv_int Try.underlying3 (by omega)) hW.kv (fun _ _ h => encI_inj h) hlk rfl)) ?_
        refine EL_val (.tuple #[.string (str ([] : List UInt8)), .bool false]) w64 rfl (r_move rfl) ?_
        refine EL_val (.string (str ([] : List UInt8))) w64 rfl (r_extract rfl rfl) ?_
        refine EL_val (.bool false) w64 rfl (r_extract rfl rfl) ?_
        refine EL_val (.string (str ([] : List UInt8))) w64 rfl (r_assign rfl) ?_
        refine EL_val (.bool false) w64 rfl (r_assign rfl) ?_
        refine EL_nil ?_
        refine thn_n ?_
        refine EC_block ?_
        refine EC_seq ?_
        refine EC_reg ?_
        refine EL_val (.int .i64 a49) w64 rfl (r_move rfl) ?_
        refine EL_val (.bool false) w64 rfl (r_dec (show (decide (a49 < 1)) = false from by simp; omega) (r_lss rfl rfl)) ?_
        refine EL_val (.bool false) w64 rfl (r_move rfl) ?_
        refine EL_gval 63 rfl rfl rfl rfl (.int .i64 a49) w64 rfl (r_move rfl) ?_
        refine EL_gval 63 rfl rfl rfl rfl (.bool true) w64 rfl (r_dec (show (decide (16 < a49)) = true from by simp; omega) (r_gtr rfl rfl)) ?_
        refine EL_val (.bool true) w64 rfl (r_pickF rfl rfl) ?_
        refine EL_val (.bool true) w64 rfl (r_assign rfl) ?_
        refine EL_nil ?_
        refine thn_n ?_
        refine EC_cond_true rfl ?_
        refine EC_seq ?_
        refine EC_reg ?_
        refine EL_val (.int .i64 (learnE ks a49 (signOf 75 ((L.length : Int) + 1)))) w64 rfl (r_move rfl) ?_
        refine EL_val (.bool false) w64 rfl (r_dec (show (decide ((learnE ks a49 (signOf 75 ((L.length : Int) + 1))) ≠ 12)) = false from by rw [hE]; rfl) (r_neq rfl rfl)) ?_
        refine EL_nil ?_
        refine thn_n ?_
        refine EC_cond_false rfl ?_
        refine EC_skip ?_
        refine inB_n ?_
        refine inB_n ?_
        refine thn_n ?_
        refine EC_reg ?_
        refine EL_int ((j : Int) + 1) rfl (r_addi (by exact e39) rfl (by omega)) ?_
        intro x94 hx94
        refine EL_val (.int .i64 x94) w64 rfl (r_move rfl) ?_
        refine EL_nil ?_
        refine thn_n ?_
        have q96 : learnK ks a49 (signOf 75 ((L.length : Int) + 1)) = ks := Wants.same (by rw [hE]; decide)
        have S95 : Sat w64 I66 (RingP r24 ks :: Suite p21 (L ++ [tKey]) :: Mp b27 (entM encI decS K) :: R) := S65.as 0 rfl (congrArg (fun zz => RingP r24 zz) q96)
        refine ⟨_, ?_, j + 1, L ++ [tKey], ks, K, n, I66, rfl, (Eq.trans (show _ = Value.int .i64 x94 from rfl) (congrArg _ (by omega))), (by exact e40), (by exact e41), (by exact e42), (by exact e43), (by exact e44), (by exact e45), by omega, by simp; omega, hW, (Gh.le_trans (Gh.le_trans le46 le60) le67), S95⟩
        first | omega | (simp; omega)
    · refine EC_exit ?_
      refine thn_x ?_
      refine thn_x ?_
      refine inB_hit ?_
      refine thn_n ?_
      refine EC_seq ?_
      refine EC_seq ?_
      refine EC_reg ?_
      refine EL_val (.int .i64 0) w37 rfl (r_move rfl) ?_
      refine EL_nil ?_
      refine thn_n ?_
      refine EC_block ?_
      refine EC_loop (fun m' E' w' => ∃ i : Nat, m' = 17 - i ∧ E' 74 = .int .i64 (i : Int) ∧ E' 6 = r24 ∧ E' 7 = .map (some b27) ∧ E' 8 = .int .i64 n ∧ (i ≤ 17) ∧ Sat w' I38 (RingP r24 ks :: Suite p21 L :: Mp b27 (entM encI decS K) :: R)) _ ⟨0, rfl, rfl, (by exact e42), (by exact e43), (by exact e40), by omega, S47⟩ ?_
      rintro _ E97 w98 ⟨i, rfl, e99, e100, e101, e102, hi, S103⟩
      refine EC_seq ?_
      refine EC_reg ?_
      refine EL_val (.bool (decide ((i : Int) < 17))) w98 rfl (r_lss (by exact e99) rfl) ?_
      refine EL_nil ?_
      refine thn_n ?_
      refine EC_seq ?_
      refine EC_if (p := (i : Int) < 17) rfl (fun h104 => ?_) (fun h104 => ?_)
      · refine EC_skip ?_
        refine thn_n ?_
        refine EC_seq ?_
        refine EC_block ?_
        refine EC_seq ?_
        refine EC_reg ?_
        refine EL_val (.int .i64 (i : Int)) w98 rfl (r_move (by exact e99)) ?_
        refine EL_val (.int .i64 (i : Int)) w98 rfl (r_assign rfl) ?_
        refine EL_nil ?_
        refine thn_n ?_
        refine EC_seq ?_
        refine EC_reg ?_
        refine EL_val r24 w98 rfl (r_move (by exact e100)) ?_
        refine EL_val (.int .i64 (i : Int)) w98 rfl (r_move rfl) ?_
        refine EL_ret _ rfl Try.func21 rfl nm21 rfl (RKey_c r24 ks (i : Int) I38 _ _ S103 hW.2.2.2.2.2) ?_
        rintro _ w105 ⟨v107, rfl, S106⟩
        refine EL_val (.tuple #[v107, .bool (!(keyAt ks (i : Int)).isEmpty)]) w105 rfl (r_move rfl) ?_
        refine EL_val v107 w105 rfl (r_extract rfl rfl) ?_
        refine EL_val (.bool (!(keyAt ks (i : Int)).isEmpty)) w105 rfl (r_extract rfl rfl) ?_
        refine EL_val v107 w105 rfl (r_assign rfl) ?_
        refine EL_val (.bool (!(keyAt ks (i : Int)).isEmpty)) w105 rfl (r_assign rfl) ?_
        refine EL_nil ?_
        refine thn_n ?_
        refine EC_seq ?_
        rcases (by omega : i = 0 ∨ 1 ≤ i) with hi0 | hi1
        · refine EC_reg ?_
          refine EL_val (.int .i64 (i : Int)) w105 rfl (r_move rfl) ?_
          refine EL_val (.bool false) w105 rfl (r_dec (show (decide (0 < (i : Int))) = false from by simp; omega) (r_gtr rfl rfl)) ?_
          refine EL_val (.bool false) w105 rfl (r_move rfl) ?_
          refine EL_pass 85 rfl rfl rfl rfl rfl ?_
          refine EL_pass 85 rfl rfl rfl rfl rfl ?_
          refine EL_pass 85 rfl rfl rfl rfl rfl ?_
          refine EL_pass 85 rfl rfl rfl rfl rfl ?_
          refine EL_pass 85 rfl rfl rfl rfl rfl ?_
          refine EL_pass 85 rfl rfl rfl rfl rfl ?_
          refine EL_pass 85 rfl rfl rfl rfl rfl ?_
          refine EL_passU 92 rfl rfl rfl rfl ?_
          refine EL_passU 92 rfl rfl rfl rfl ?_
          refine EL_passU 92 rfl rfl rfl rfl ?_
          refine EL_passU 92 rfl rfl rfl rfl ?_
          refine EL_passU 92 rfl rfl rfl rfl ?_
          refine EL_passU 92 rfl rfl rfl rfl ?_
          refine EL_pass 85 rfl rfl rfl rfl rfl ?_
          refine EL_val (.bool false) w105 rfl (r_pickF rfl rfl) ?_
          refine EL_val (.bool false) w105 rfl (r_move rfl) ?_
          refine EL_gval 101 rfl rfl rfl rfl (.int .i64 (i : Int)) w105 rfl (r_move rfl) ?_
          refine EL_gval 101 rfl rfl rfl rfl (.bool true) w105 rfl (r_dec (show (decide ((i : Int) = 0)) = true from by simp; omega) (r_eql rfl rfl)) ?_
          refine EL_gval 101 rfl rfl rfl rfl (.bool true) w105 rfl (r_move rfl) ?_
          refine EL_gval 104 rfl rfl rfl rfl (.bool (!(keyAt ks (i : Int)).isEmpty)) w105 rfl (r_move rfl) ?_
          refine EL_gval 104 rfl rfl rfl rfl (.bool (!(!(keyAt ks (i : Int)).isEmpty))) w105 rfl (r_not rfl) ?_
          refine EL_gval 101 rfl rfl rfl rfl (.bool (!(!(keyAt ks (i : Int)).isEmpty))) w105 rfl (r_pickT rfl rfl) ?_
          refine EL_val (.bool (!(!(keyAt ks (i : Int)).isEmpty))) w105 rfl (r_pickF rfl rfl) ?_
          refine EL_nil ?_
          refine thn_n ?_
          refine EC_cond_false (Eq.trans (show _ = Value.bool (!(!(keyAt ks (i : Int)).isEmpty)) from rfl) (congrArg Value.bool (show (!(!(keyAt ks (i : Int)).isEmpty)) = false from by rw [Bool.not_not, hi0]; exact Bool.eq_false_iff.2 (fun h => hW.2.2.1 (List.isEmpty_iff.1 h))))) ?_
          refine EC_skip ?_
          refine inB_n ?_
          refine thn_n ?_
          refine EC_reg ?_
          refine EL_int ((i : Int) + 1) rfl (r_addi (by exact e99) rfl (by omega)) ?_
          intro x108 hx108
          refine EL_val (.int .i64 x108) w105 rfl (r_move rfl) ?_
          refine EL_nil ?_
          refine thn_n ?_
          have S109 : Sat w105 I38 (RingP r24 ks :: Suite p21 L :: Mp b27 (entM encI decS K) :: R) := S106.drop 0 rfl
          refine ⟨_, ?_, i + 1, rfl, (Eq.trans (show _ = Value.int .i64 x108 from rfl) (congrArg _ (by omega))), (by exact e100), (by exact e101), (by exact e102), by omega, S109⟩
          first | omega | (simp; omega)
        · refine EC_reg ?_
          refine EL_val (.int .i64 (i : Int)) w105 rfl (r_move rfl) ?_
          refine EL_val (.bool true) w105 rfl (r_dec (show (decide (0 < (i : Int))) = true from by simp; omega) (r_gtr rfl rfl)) ?_
          refine EL_val (.bool true) w105 rfl (r_move rfl) ?_
          refine EL_gval 85 rfl rfl rfl rfl (.bool (!(keyAt ks (i : Int)).isEmpty)) w105 rfl (r_move rfl) ?_
          refine EL_gval 85 rfl rfl rfl rfl (.map (some b27)) w105 rfl (r_move (by exact e101)) ?_
          refine EL_gval 85 rfl rfl rfl rfl (.int .i64 (i : Int)) w105 rfl (r_move rfl) ?_
          obtain ⟨ar110, ck111, hm112, he113⟩ := S106.map 3 rfl
          refine EL_gval 85 rfl rfl rfl rfl (.string (str (keyAt ks (i : Int)))) w105 rfl ((r_lookK1 (enc := encI) (dec := decS) (z := []) (kk := (i : Int)) (Go.Maps.int_keyed Try.underlying3) Try.underlying43 (by kernel_rfl) rfl rfl hm112 he113 hW.2.2.2.1 (kv_int Try.underlying3 (by omega)) hW.kv (fun _ _ h => encI_inj h) (hW.at (by omega)))) ?_
          refine EL_gval 85 rfl rfl rfl rfl (.bool (decide ((keyAt ks (i : Int)) ≠ ([] : List UInt8)))) w105 rfl (r_neqs rfl rfl) ?_
          refine EL_gval 85 rfl rfl rfl rfl (.bool false) w105 rfl (r_dec (show ((!(keyAt ks (i : Int)).isEmpty) != (decide ((keyAt ks (i : Int)) ≠ ([] : List UInt8)))) = false from by cases hq : keyAt ks (i : Int) <;> simp [hq]) (r_neqb rfl rfl Try.underlying4)) ?_
          refine EL_gval 85 rfl rfl rfl rfl (.bool false) w105 rfl (r_move rfl) ?_
          refine EL_gval 92 rfl rfl rfl rfl v107 w105 rfl (r_move rfl) ?_
          refine EL_gval 92 rfl rfl rfl rfl (.string (str (keyAt ks (i : Int)))) w105 rfl (r_str rfl (own_row (S106.own 0 rfl)) Try.underlying23 Try.underlying5 Try.underlying9) ?_
          refine EL_gval 92 rfl rfl rfl rfl (.map (some b27)) w105 rfl (r_move (by exact e101)) ?_
          refine EL_gval 92 rfl rfl rfl rfl (.int .i64 (i : Int)) w105 rfl (r_move rfl) ?_
          obtain ⟨ar114, ck115, hm116, he117⟩ := S106.map 3 rfl
          refine EL_gval 92 rfl rfl rfl rfl (.string (str (keyAt ks (i : Int)))) w105 rfl ((r_lookK1 (enc := encI) (dec := decS) (z := []) (kk := (i : Int)) (Go.Maps.int_keyed Try.underlying3) Try.underlying43 (by kernel_rfl) rfl rfl hm116 he117 hW.2.2.2.1 (kv_int Try.underlying3 (by omega)) hW.kv (fun _ _ h => encI_inj h) (hW.at (by omega)))) ?_
          refine EL_gval 92 rfl rfl rfl rfl (.bool false) w105 rfl (r_dec (show decide ((keyAt ks (i : Int)) ≠ (keyAt ks (i : Int))) = false from by simp) (r_neqs rfl rfl)) ?_
          refine EL_gval 85 rfl rfl rfl rfl (.bool false) w105 rfl (r_pickF rfl rfl) ?_
          refine EL_val (.bool false) w105 rfl (r_pickT rfl rfl) ?_
          refine EL_val (.bool false) w105 rfl (r_move rfl) ?_
          refine EL_gval 101 rfl rfl rfl rfl (.int .i64 (i : Int)) w105 rfl (r_move rfl) ?_
          refine EL_gval 101 rfl rfl rfl rfl (.bool false) w105 rfl (r_dec (show (decide ((i : Int) = 0)) = false from by simp; omega) (r_eql rfl rfl)) ?_
          refine EL_gval 101 rfl rfl rfl rfl (.bool false) w105 rfl (r_move rfl) ?_
          refine EL_pass 104 rfl rfl rfl rfl rfl ?_
          refine EL_pass 104 rfl rfl rfl rfl rfl ?_
          refine EL_gval 101 rfl rfl rfl rfl (.bool false) w105 rfl (r_pickF rfl rfl) ?_
          refine EL_val (.bool false) w105 rfl (r_pickF rfl rfl) ?_
          refine EL_nil ?_
          refine thn_n ?_
          refine EC_cond_false rfl ?_
          refine EC_skip ?_
          refine inB_n ?_
          refine thn_n ?_
          refine EC_reg ?_
          refine EL_int ((i : Int) + 1) rfl (r_addi (by exact e99) rfl (by omega)) ?_
          intro x118 hx118
          refine EL_val (.int .i64 x118) w105 rfl (r_move rfl) ?_
          refine EL_nil ?_
          refine thn_n ?_
          have S119 : Sat w105 I38 (RingP r24 ks :: Suite p21 L :: Mp b27 (entM encI decS K) :: R) := S106.drop 0 rfl
          refine ⟨_, ?_, i + 1, rfl, (Eq.trans (show _ = Value.int .i64 x118 from rfl) (congrArg _ (by omega))), (by exact e100), (by exact e101), (by exact e102), by omega, S119⟩
          first | omega | (simp; omega)
      · refine EC_exit ?_
        refine thn_x ?_
        refine thn_x ?_
        refine inB_hit ?_
        refine thn_n ?_
        refine EC_seq ?_
        refine EC_reg ?_
        refine EL_val r24 w98 rfl (r_move (by exact e100)) ?_
        refine EL_ret _ rfl Try.func22 rfl nm22 rfl (Newest_c r24 ks I38 _ _ S103 hW.2.2.1) ?_
        rintro _ w120 ⟨n122, rfl, h123, S121⟩
        have hnn := Newest.one h123 hW.2.1
        refine EL_val (.int .i64 n) w120 rfl (r_move (by exact e102)) ?_
        refine EL_val (.bool true) w120 rfl (r_dec (show (decide (n122 = n)) = true from by rw [decide_eq_true_eq]; exact hnn) (r_eql rfl rfl)) ?_
        refine EL_val (.bool true) w120 rfl (r_assign rfl) ?_
        refine EL_nil ?_
        refine thn_n ?_
        refine EC_ret ?_
        refine fin1 Try.results7 (show _ = .bool true from rfl) ⟨_, rfl, ?_⟩
        have S124 : Sat w120 I38 (Suite p21 L :: Mp b27 (entM encI decS K) :: R) := S121.drop 0 rfl
        have S125 : Sat w120 I38 (Mp b27 (entM encI decS K) :: R) := S124.drop 0 rfl
        have S126 : Sat w120 I38 (R) := S125.drop 0 rfl
        exact ⟨I38, (Gh.le_trans (Gh.le_trans le14 le26) le46), rfl, S126⟩
theorem RingLearns_c (v0 : Value) (secret : List UInt8) (v1 : Value) (epochs : (List Int)) (w : World) (H0 : Bs w v0 secret) (H1 : RoX (gh w) v1 intR epochs) : Ret Try.prog 7 [v0, v1] w fun v w' => v = .bool true ∧ Below w.heap.size w w' :=
  (RingLearns_w v0 secret v1 epochs (gh w) [] w (Sat.start w) (Row.ro H0) H1).mono fun v w' h => by obtain ⟨J, le, e, S⟩ := h; exact ⟨e.symm, S.fin le⟩
theorem own : ownKnob Try.prog.godebug = none := by kernel_rfl
theorem laidOut : laidOutB Try.prog = true := by kernel_rfl
set_option maxRecDepth 100000 in
theorem lifted (os : Os) (started : os.Started) (H : Type) (enc : TypeId × Value → H) :
    ReturnsInHanded {} Try.checked os 7 .any (Rows.ringLearnsSpec.pre6 enc Try.prog Try.f7 Rows.ringLearnsRow.domain false) (Rows.ringLearnsSpec.post enc Try.prog Try.f7 false true false false) := by
  refine returnsInHanded_of_change (C := Try.checked) own started (by kernel_rfl) Try.func7
    (ChangeSpec.witness6 (enc := enc) (C := Try.checked) false ⟨#[], #[.slice none 0 0, .slice none 0 0], []⟩ 8 (by kernel_rfl) (by kernel_rfl) (by kernel_rfl) (by kernel_rfl)) ?_
  intro W base args ds gs before hval0 hW hcnd _
  have hval : ∀ (j : Nat) t v, Try.f7.params[j]? = some t → args[j]? = some v → Value.okWide Try.prog W .any base t v := hval0
  have hW' := hW
  obtain ⟨p, q, hA0, hV, rfl, hfz, hnd⟩ := hW
  have hA : DataW.TrodAll enc Try.prog W 0 (fun _ => true) true Try.f7.params.toList args.toList ds p := hA0
  rw [Try.params7] at hA hval
  obtain ⟨v0, vs0, d0, ds0, p0, q0, hargs, rfl, rfl, h0, r0⟩ := trodAll_cons hA
  obtain ⟨v1, vs1, d1, ds1, p1, q1, rfl, rfl, rfl, h1, r1⟩ := trodAll_cons r0
  obtain ⟨rfl, rfl, rfl⟩ := trodAll_nil r1
  obtain rfl : args = #[v0, v1] := by cases args; simp_all
  obtain ⟨rfl, rfl⟩ := trodVars_none hV
  have k0 := h0
  have lt0 : ∀ x ∈ p0, x.block < W.heap.size := by obtain ⟨m, hm⟩ := k0; exact DataW.trod_lt m _ _ _ hm
  obtain ⟨a0, len0, cap0, rfl⟩ := okWide_slice Try.underlying23 (hval 0 23 v0 rfl rfl)
  obtain ⟨b0, H0⟩ : ∃ l, Bs W (.slice a0 len0 cap0) l := by
    obtain ⟨fuel, hf⟩ := h0
    rcases open_ints Try.underlying23 Try.underlying5 (by kernel_rfl) hf with ⟨hcs, _⟩ | ⟨x, l, c, zs, hcs, _, hl, hm, hz, _, hcell, hwz⟩
    · simp [Value.cells] at hcs
      obtain ⟨rfl, rfl, rfl⟩ := hcs
      exact ⟨[], Row.nil W⟩
    · simp [Value.cells] at hcs
      obtain ⟨rfl, rfl, rfl⟩ := hcs
      exact bs_open hl hm (by simpa using hz) hcell hwz
  have k1 := h1
  have lt1 : ∀ x ∈ p1, x.block < W.heap.size := by obtain ⟨m, hm⟩ := k1; exact DataW.trod_lt m _ _ _ hm
  obtain ⟨a1, len1, cap1, rfl⟩ := okWide_slice Try.underlying40 (hval 1 40 v1 rfl rfl)
  obtain ⟨b1, H1⟩ : ∃ l, RoX (gh W) (.slice a1 len1 cap1) intR l := by
    obtain ⟨fuel, hf⟩ := h1
    obtain ⟨l, v, hv, _, H⟩ := (Opn.list (τ := intR) Try.underlying40 (by kernel_rfl) (by decide) (Opn.int Try.underlying3)) _ W _ _ _ _ _ hf
    simp [Value.cells] at hv
    subst hv
    exact ⟨l, H⟩
  clear hA0 hval0
  refine Calls.mono (RingLearns_c (.slice a0 len0 cap0) b0 (.slice a1 len1 cap1) b1 W H0 H1) fun e W' ⟨v', he, hv, bel⟩ => ?_
  subst he
  subst hv
  exact ⟨_, rfl, _, _, _, [], _, [], hW', trodAll_mk1 (shut_bool Try.underlying4 _), (trodAll_cons_mk (Below.trod laidOut (by kernel_rfl) (of_decide_eq_true (by kernel_rfl)) k0 bel lt0) (trodAll_cons_mk (Below.trod laidOut (by kernel_rfl) (of_decide_eq_true (by kernel_rfl)) k1 bel lt1) trodAll_mk0)), rfl, bel.frame _, fun h => by cases h⟩
theorem over : Rows.ringLearnsRow.holds Try.pinned (OpenSpec.ofChange Rows.ringLearnsSpec) :=
  OpenClaim.holds_of_wide 7 Try.f7 rfl rfl rfl rfl rfl rfl rfl ⟨rfl, rfl, rfl, rfl, rfl⟩ rfl rfl rfl rfl rfl (by kernel_rfl) Try.func7 (by kernel_rfl)
    (of_decide_eq_true (by kernel_rfl)) (by unfold Func.isWrapper; first | (rw [if_pos (by decide +kernel)]; kernel_rfl) | (rw [if_neg (by decide +kernel)]; exact ⟨rfl, rfl⟩))
    (fun os started H enc _ => lifted os started H enc)
end Go.Proofs.Ytdnlkkgbgjibgaa.ringLearns
namespace Go.Proofs.Ytdnlkkgbgjibgaa
theorem RingLearns_holds : Rows.RingLearnsSaid := ringLearns.over
end Go.Proofs.Ytdnlkkgbgjibgaa
