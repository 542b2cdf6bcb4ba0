import Derived.Test.YtlhaojpkejpgfaaPolE
set_option linter.unusedVariables false
set_option linter.unusedSimpArgs false
namespace Go.Proofs.Ytlhaojpkejpgfaa
open Go.RowKit Go.Ecal

set_option maxRecDepth 100000 in
set_option maxHeartbeats 4000000 in
theorem rtimes_c (v0 : Value) (a : List Int) (v1 : Value) (b : List Int) (w : World) (H0 : Row w v0 (a.map (Value.int .i64))) (H1 : Row w v1 (b.map (Value.int .i64))) (ha : dig a) (hb : dig b) (la : a.length ≤ 4000000) (lb : b.length ≤ 40) : Ret Try.prog 42 [v0, v1] w fun v w' => ∃ o, w'.ownsRow w.heap.size 3 1 v o.length (o.map (Value.int .i64)) ∧ Below w.heap.size w w' ∧ dig o ∧ val o = val a * val b ∧ o.length = a.length + b.length + 1 := by
  refine ret_E Try.func42 rfl Try.ntmps42 (by simp) ?_
  refine EC_seq ?_
  refine EC_reg ?_
  refine EL_val (.slice none 0 0) w rfl (r_assign rfl) ?_
  refine EL_nil ?_
  refine thn_n ?_
  refine EC_seq ?_
  refine EC_reg ?_
  refine EL_val v0 w rfl (r_move rfl) ?_
  refine EL_val (.int .i64 (a.length : Int)) w rfl (lenF (r_len rfl H0 Try.underlying66)) ?_
  refine EL_val v1 w rfl (r_move rfl) ?_
  refine EL_val (.int .i64 (b.length : Int)) w rfl (lenF (r_len rfl H1 Try.underlying66)) ?_
  refine EL_int ((a.length : Int) + (b.length : Int)) rfl (r_addi rfl rfl (by omega)) ?_
  intro x11 hx11
  refine EL_int (x11 + 1) rfl (r_addi rfl rfl (by omega)) ?_
  intro x12 hx12
  refine EL_make w.heap.size el_i64 rfl rfl rfl rfl (by omega) (by omega) (by omega) (by omega) (Nat.le_refl _) ?_
  intro v13 w14 O15 B16 k17 z18
  have B19 : Below w.heap.size w w14 := B16
  have O20 := own_eqF (f := Value.int .i64) (l := (List.replicate (x12 : Int).toNat 0 : List Int)) O15 (by simp)
  refine EL_val v13 w14 rfl (r_assign rfl) ?_
  refine EL_nil ?_
  refine thn_n ?_
  refine EC_seq ?_
  refine EC_seq ?_
  refine EC_reg ?_
  refine EL_val (.int .i64 0) w14 rfl (r_assign rfl) ?_
  refine EL_nil ?_
  refine thn_n ?_
  refine EC_block ?_
  refine EC_loop (fun m' E' w' => ∃ i : Int, ∃ ol : List Int, m' = (a.length - i).toNat ∧ E' 6 = .int .i64 i ∧ E' 0 = v0 ∧ E' 1 = v1 ∧ E' 4 = .slice none 0 0 ∧ E' 5 = v13 ∧ (0 ≤ i ∧ i ≤ a.length) ∧ (ol.length = a.length + b.length + 1) ∧ (∀ x ∈ ol, 0 ≤ x ∧ x ≤ 2601000 * i) ∧ (val ol = val (a.take i.toNat) * val b) ∧ Below w.heap.size w w' ∧ w'.ownsRow w.heap.size 3 1 v13 (ol).length ((ol).map (Value.int .i64))) _ ⟨0, (List.replicate (x12 : Int).toNat 0 : List Int), rfl, rfl, rfl, rfl, rfl, rfl, by omega, by simp; omega, fun x hx => by simp at hx; omega, by rw [val_rep]; simp [val], B19, O20⟩ ?_
  rintro _ E21 w22 ⟨i, ol, rfl, e23, e24, e25, e26, e27, hi, hn, hq, hv, B28, O29⟩
  refine EC_seq ?_
  refine EC_seq ?_
  refine EC_reg ?_
  refine EL_val (.int .i64 i) w22 rfl (r_move (by exact e23)) ?_
  refine EL_val v0 w22 rfl (r_move (by exact e24)) ?_
  refine EL_val (.int .i64 (a.length : Int)) w22 rfl (lenF (r_len rfl (H0.below B28) Try.underlying66)) ?_
  refine EL_val (.bool (decide (i < (a.length : Int)))) w22 rfl (r_lss rfl rfl) ?_
  refine EL_nil ?_
  refine thn_n ?_
  refine EC_if (p := i < (a.length : Int)) rfl (fun h30 => ?_) (fun h30 => ?_)
  · refine EC_skip ?_
    refine thn_n ?_
    refine EC_seq ?_
    refine EC_block ?_
    refine EC_seq ?_
    refine EC_reg ?_
    refine EL_val (.int .i64 0) w22 rfl (r_assign rfl) ?_
    refine EL_nil ?_
    refine thn_n ?_
    refine EC_block ?_
    obtain ⟨xa, hxa⟩ := get_some (l := a) (j := (i : Int).toNat) (by omega)
    refine EC_loop (fun m' E' w' => ∃ k : Int, ∃ ol2 : List Int, m' = (b.length - k).toNat ∧ E' 7 = .int .i64 k ∧ E' 0 = v0 ∧ E' 1 = v1 ∧ E' 4 = .slice none 0 0 ∧ E' 5 = v13 ∧ E' 6 = .int .i64 i ∧ (0 ≤ k ∧ k ≤ b.length) ∧ (ol2.length = a.length + b.length + 1) ∧ (∀ x ∈ ol2, 0 ≤ x ∧ x ≤ 2601000 * i + 65025 * k) ∧ (val ol2 = val (a.take i.toNat) * val b + 256 ^ i.toNat * xa * val (b.take k.toNat)) ∧ Below w.heap.size w w' ∧ w'.ownsRow w.heap.size 3 1 v13 (ol2).length ((ol2).map (Value.int .i64))) _ ⟨0, ol, rfl, rfl, (by exact e24), (by exact e25), (by exact e26), (by exact e27), (by exact e23), by omega, hn, fun x hx => by have := hq x hx; omega, by rw [hv]; simp [val], B28, O29⟩ ?_
    rintro _ E31 w32 ⟨k, ol2, rfl, e33, e34, e35, e36, e37, e38, hk, hn2, hq2, hv2, B39, O40⟩
    refine EC_seq ?_
    refine EC_seq ?_
    refine EC_reg ?_
    refine EL_val (.int .i64 k) w32 rfl (r_move (by exact e33)) ?_
    refine EL_val v1 w32 rfl (r_move (by exact e35)) ?_
    refine EL_val (.int .i64 (b.length : Int)) w32 rfl (lenF (r_len rfl (H1.below B39) Try.underlying66)) ?_
    refine EL_val (.bool (decide (k < (b.length : Int)))) w32 rfl (r_lss rfl rfl) ?_
    refine EL_nil ?_
    refine thn_n ?_
    refine EC_if (p := k < (b.length : Int)) rfl (fun h41 => ?_) (fun h41 => ?_)
    · refine EC_skip ?_
      refine thn_n ?_
      refine EC_seq ?_
      refine EC_block ?_
      refine EC_tail 17 (by kernel_rfl) (by kernel_rfl) ?_
      intro w42 B43 z44
      have B45 : Below w.heap.size w w42 := below_full B39 B39.size B43
      have B46 : Below w32.heap.size w32 w42 := B43
      refine ES_val v13 rfl (r_move (by exact e37)) ?_
      refine ES_val (.int .i64 i) rfl (r_move (by exact e38)) ?_
      refine ES_val (.int .i64 k) rfl (r_move (by exact e33)) ?_
      refine ES_int (i + k) rfl (r_addi rfl rfl (by omega)) ?_
      intro x47 hx47
      refine ES_val (.pointer (some (at_ v13 ((x47 : Int).toNat)))) rfl (r_index rfl ((own_row O40).below B46) rfl (by omega) (by first | omega | (simp; omega) | simp) Try.underlying66 (by kernel_rfl)) ?_
      obtain ⟨x48, hx49⟩ := get_some (l := ol2) (j := (x47 : Int).toNat) (by first | omega | (simp; omega) | simp)
      have dhx49 := hq2 _ (List.mem_of_getElem? hx49)
      refine ES_val (.int .i64 x48) rfl (r_load rfl (((own_row O40).below B46).cell (int_get hx49)) Try.underlying3 rfl) ?_
      refine ES_val v0 rfl (r_move (by exact e34)) ?_
      refine ES_val (.int .i64 i) rfl (r_move (by exact e38)) ?_
      refine ES_val (.pointer (some (at_ v0 ((i : Int).toNat)))) rfl (r_index rfl (H0.below B45) rfl (by omega) (by first | omega | (simp; omega) | simp) Try.underlying66 (by kernel_rfl)) ?_
      obtain ⟨x50, hx51⟩ := get_some (l := a) (j := (i : Int).toNat) (by first | omega | (simp; omega) | simp)
      have dhx51 := dig_get ha hx51
      refine ES_val (.int .i64 x50) rfl (r_load rfl ((H0.below B45).cell (int_get hx51)) Try.underlying3 rfl) ?_
      refine ES_val v1 rfl (r_move (by exact e35)) ?_
      refine ES_val (.int .i64 k) rfl (r_move (by exact e33)) ?_
      refine ES_val (.pointer (some (at_ v1 ((k : Int).toNat)))) rfl (r_index rfl (H1.below B45) rfl (by omega) (by first | omega | (simp; omega) | simp) Try.underlying66 (by kernel_rfl)) ?_
      obtain ⟨x52, hx53⟩ := get_some (l := b) (j := (k : Int).toNat) (by first | omega | (simp; omega) | simp)
      have dhx53 := dig_get hb hx53
      refine ES_val (.int .i64 x52) rfl (r_load rfl ((H1.below B45).cell (int_get hx53)) Try.underlying3 rfl) ?_
      have mq := mul_bd (B := 255) (C := 255) (x := x50) (y := x52) (by omega) (by omega)
      refine ES_int (x50 * x52) rfl (r_muli rfl rfl (by omega)) ?_
      intro x54 hx54
      refine ES_int (x48 + x54) rfl (r_addi rfl rfl (by omega)) ?_
      intro x55 hx55
      refine ES_val (.pointer (some (at_ v13 ((x47 : Int).toNat)))) rfl (r_index rfl ((own_row O40).below B46) rfl (by omega) (by first | omega | (simp; omega) | simp) Try.underlying66 (by kernel_rfl)) ?_
      refine ES_nil ?_
      refine EL_store (u := .int .i64 x55) rfl rfl (own_below O40 B46) (by first | omega | (simp; omega)) rfl (by kernel_rfl) ?_
      intro w56 O57 G58 z59
      have O57' := own_setF O57
      have B60 : Below w.heap.size w w56 := below_grew B45 G58 (own_below O40 B46) (Nat.le_refl _) (B45.size)
      refine EL_nil ?_
      refine inB_n ?_
      refine thn_n ?_
      refine EC_reg ?_
      refine EL_val (.int .i64 k) w56 rfl (r_move (by exact e33)) ?_
      refine EL_int (k + 1) rfl (r_addi rfl rfl (by omega)) ?_
      intro x62 hx62
      refine EL_val (.int .i64 x62) w56 rfl (r_assign rfl) ?_
      refine EL_nil ?_
      refine thn_n ?_
      have ex : x50 = xa := some_same hx51 hxa
      have ei : (x47 : Int).toNat = i.toNat + k.toNat := by omega
      have el : ol2.set ((x47 : Int).toNat) x55 = ol2.set (i.toNat + k.toNat) (x48 + xa * x52) := by rw [ei, hx55, hx54, ex]
      have inv := mul_inv hv2 (by rw [← ei]; exact hx49) hx53
      rw [← el, show k.toNat + 1 = (x62 : Int).toNat from by omega] at inv
      have qa := all_set (j := (x47 : Int).toNat) (y := x55) (L := 2601000 * i + 65025 * x62) (fun z hz => by have := hq2 z hz; omega) (by omega)
      refine ⟨_, ?_, x62, ol2.set ((x47 : Int).toNat) x55, rfl, rfl, (by exact e34), (by exact e35), (by exact e36), (by exact e37), (by exact e38), by omega, by simp; omega, qa, inv, B60, O57'⟩
      first | omega | (simp; omega)
    · refine EC_exit ?_
      refine thn_x ?_
      refine thn_x ?_
      refine inB_hit ?_
      refine inB_n ?_
      refine thn_n ?_
      refine EC_reg ?_
      refine EL_val (.int .i64 i) w32 rfl (r_move (by exact e38)) ?_
      refine EL_int (i + 1) rfl (r_addi rfl rfl (by omega)) ?_
      intro x63 hx63
      refine EL_val (.int .i64 x63) w32 rfl (r_assign rfl) ?_
      refine EL_nil ?_
      refine thn_n ?_
      have ek : k.toNat = b.length := by omega
      rw [ek, List.take_length] at hv2
      have inv : val ol2 = val (a.take (x63 : Int).toNat) * val b := by rw [hv2, show (x63 : Int).toNat = i.toNat + 1 from by omega, val_takeS hxa]; grind
      refine ⟨_, ?_, x63, ol2, rfl, rfl, (by exact e34), (by exact e35), (by exact e36), (by exact e37), by omega, hn2, fun z hz => by have := hq2 z hz; omega, inv, B39, O40⟩
      first | omega | (simp; omega)
  · refine EC_exit ?_
    refine thn_x ?_
    refine thn_x ?_
    refine inB_hit ?_
    refine thn_n ?_
    refine EC_seq ?_
    refine EC_seq ?_
    refine EC_reg ?_
    refine EL_val (.int .i64 0) w22 rfl (r_assign rfl) ?_
    refine EL_nil ?_
    refine thn_n ?_
    refine EC_block ?_
    have ea : i.toNat = a.length := by omega
    rw [ea, List.take_length] at hv
    refine EC_loop (fun m' E' w' => ∃ i2 : Int, ∃ ol3 : List Int, m' = (a.length + b.length - i2).toNat ∧ E' 8 = .int .i64 i2 ∧ E' 4 = .slice none 0 0 ∧ E' 5 = v13 ∧ (0 ≤ i2 ∧ i2 ≤ a.length + b.length) ∧ (ol3.length = a.length + b.length + 1) ∧ (CB ol3 i2.toNat) ∧ (val ol3 = val a * val b) ∧ Below w.heap.size w w' ∧ w'.ownsRow w.heap.size 3 1 v13 (ol3).length ((ol3).map (Value.int .i64))) _ ⟨0, ol, rfl, rfl, (by exact e26), (by exact e27), by omega, hn, CB_of hq (by omega), hv, B28, O29⟩ ?_
    rintro _ E64 w65 ⟨i2, ol3, rfl, e66, e67, e68, hi2, hn3, hq3, hv3, B69, O70⟩
    refine EC_seq ?_
    refine EC_seq ?_
    refine EC_reg ?_
    refine EL_val (.int .i64 i2) w65 rfl (r_move (by exact e66)) ?_
    refine EL_int (i2 + 1) rfl (r_addi rfl rfl (by omega)) ?_
    intro x71 hx71
    refine EL_val v13 w65 rfl (r_move (by exact e68)) ?_
    refine EL_val (.int .i64 (ol3.length : Int)) w65 rfl (lenF (r_len rfl (own_row O70) Try.underlying66)) ?_
    refine EL_val (.bool (decide (x71 < (ol3.length : Int)))) w65 rfl (r_lss rfl rfl) ?_
    refine EL_nil ?_
    refine thn_n ?_
    refine EC_if (p := x71 < (ol3.length : Int)) rfl (fun h72 => ?_) (fun h72 => ?_)
    · refine EC_skip ?_
      refine thn_n ?_
      refine EC_seq ?_
      refine EC_block ?_
      refine EC_seq ?_
      refine EC_tail 12 (by kernel_rfl) (by kernel_rfl) ?_
      intro w73 B74 z75
      have B76 : Below w.heap.size w w73 := below_full B69 B69.size B74
      have B77 : Below w65.heap.size w65 w73 := B74
      refine ES_val v13 rfl (r_move (by exact e68)) ?_
      refine ES_val (.int .i64 i2) rfl (r_move (by exact e66)) ?_
      refine ES_int (i2 + 1) rfl (r_addi rfl rfl (by omega)) ?_
      intro x78 hx78
      refine ES_val (.pointer (some (at_ v13 ((x78 : Int).toNat)))) rfl (r_index rfl ((own_row O70).below B77) rfl (by omega) (by first | omega | (simp; omega) | simp) Try.underlying66 (by kernel_rfl)) ?_
      obtain ⟨x79, hx80⟩ := get_some (l := ol3) (j := (x78 : Int).toNat) (by first | omega | (simp; omega) | simp)
      have dhx80 := hq3 _ _ hx80
      refine ES_val (.int .i64 x79) rfl (r_load rfl (((own_row O70).below B77).cell (int_get hx80)) Try.underlying3 rfl) ?_
      refine ES_val v13 rfl (r_move (by exact e68)) ?_
      refine ES_val (.int .i64 i2) rfl (r_move (by exact e66)) ?_
      refine ES_val (.pointer (some (at_ v13 ((i2 : Int).toNat)))) rfl (r_index rfl ((own_row O70).below B77) rfl (by omega) (by first | omega | (simp; omega) | simp) Try.underlying66 (by kernel_rfl)) ?_
      obtain ⟨x81, hx82⟩ := get_some (l := ol3) (j := (i2 : Int).toNat) (by first | omega | (simp; omega) | simp)
      have dhx82 := hq3 _ _ hx82
      refine ES_val (.int .i64 x81) rfl (r_load rfl (((own_row O70).below B77).cell (int_get hx82)) Try.underlying3 rfl) ?_
      refine ES_int (x81 / 256) rfl (r_quoi rfl rfl (by omega) (by omega)) ?_
      intro x83 hx83
      refine ES_int (x79 + x83) rfl (r_addi rfl rfl (by omega)) ?_
      intro x84 hx84
      refine ES_val (.pointer (some (at_ v13 ((x78 : Int).toNat)))) rfl (r_index rfl ((own_row O70).below B77) rfl (by omega) (by first | omega | (simp; omega) | simp) Try.underlying66 (by kernel_rfl)) ?_
      refine ES_nil ?_
      refine EL_store (u := .int .i64 x84) rfl rfl (own_below O70 B77) (by first | omega | (simp; omega)) rfl (by kernel_rfl) ?_
      intro w85 O86 G87 z88
      have O86' := own_setF O86
      have B89 : Below w.heap.size w w85 := below_grew B76 G87 (own_below O70 B77) (Nat.le_refl _) (B76.size)
      refine EL_nil ?_
      refine thn_n ?_
      refine EC_reg ?_
      refine EL_val v13 w85 rfl (r_move (by exact e68)) ?_
      refine EL_val (.int .i64 i2) w85 rfl (r_move (by exact e66)) ?_
      refine EL_val v13 w85 rfl (r_move (by exact e68)) ?_
      refine EL_val (.int .i64 i2) w85 rfl (r_move (by exact e66)) ?_
      refine EL_val (.pointer (some (at_ v13 ((i2 : Int).toNat)))) w85 rfl (r_index rfl (own_row O86') rfl (by omega) (by first | omega | (simp; omega) | simp) Try.underlying66 (by kernel_rfl)) ?_
      obtain ⟨x91, hx92⟩ := get_some (l := ol3.set ((x78 : Int).toNat) x84) (j := (i2 : Int).toNat) (by first | omega | (simp; omega) | simp)
      have es := set_ne (by omega) hx92 hx82
      refine EL_val (.int .i64 x91) w85 rfl (r_load rfl ((own_row O86').cell (int_get hx92)) Try.underlying3 rfl) ?_
      refine EL_int (x91 % 256) rfl (r_remi rfl rfl (by omega) (by omega)) ?_
      intro x93 hx93
      refine EL_val (.pointer (some (at_ v13 ((i2 : Int).toNat)))) w85 rfl (r_index rfl (own_row O86') rfl (by omega) (by first | omega | (simp; omega) | simp) Try.underlying66 (by kernel_rfl)) ?_
      refine EL_store (u := .int .i64 x93) rfl rfl O86' (by first | omega | (simp; omega)) rfl (by kernel_rfl) ?_
      intro w94 O95 G96 z97
      have O95' := own_setF O95
      have B98 : Below w.heap.size w w94 := below_grew B89 G96 O86' (Nat.le_refl _) (B89.size)
      refine EL_nil ?_
      refine inB_n ?_
      refine thn_n ?_
      refine EC_reg ?_
      refine EL_val (.int .i64 i2) w94 rfl (r_move (by exact e66)) ?_
      refine EL_int (i2 + 1) rfl (r_addi rfl rfl (by omega)) ?_
      intro x99 hx99
      refine EL_val (.int .i64 x99) w94 rfl (r_assign rfl) ?_
      refine EL_nil ?_
      refine thn_n ?_
      have ei : (x78 : Int).toNat = i2.toNat + 1 := by omega
      have el : (ol3.set ((x78 : Int).toNat) x84).set ((i2 : Int).toNat) x93 = (ol3.set (i2.toNat + 1) (x79 + x81 / 256)).set i2.toNat (x81 % 256) := by rw [ei, hx84, hx83, hx93, es]
      rw [ei] at hx80
      have inv := carry_inv hx82 hx80
      have qa := carry_all hx82 hx80 hq3
      rw [← el] at inv qa
      refine ⟨_, ?_, x99, (ol3.set ((x78 : Int).toNat) x84).set ((i2 : Int).toNat) x93, rfl, rfl, (by exact e67), (by exact e68), by omega, by simp; omega, by rw [show (x99 : Int).toNat = i2.toNat + 1 from by omega]; exact qa, inv.trans hv3, B98, O95'⟩
      first | omega | (simp; omega)
    · refine EC_exit ?_
      refine thn_x ?_
      refine thn_x ?_
      refine inB_hit ?_
      refine thn_n ?_
      refine EC_seq ?_
      refine EC_reg ?_
      refine EL_val v13 w65 rfl (r_move (by exact e68)) ?_
      refine EL_val v13 w65 rfl (r_assign rfl) ?_
      refine EL_nil ?_
      refine thn_n ?_
      refine EC_ret ?_
      refine fin1 Try.results42 (show _ = v13 from rfl) ⟨_, rfl, ?_⟩
      exact ⟨ol3, O70, B69, mul_end ha hb hn3 (by omega) hq3 hv3, hv3, hn3⟩

end Go.Proofs.Ytlhaojpkejpgfaa
