import Derived.Test.YtlhaojpkejpgfaaPolG
set_option linter.unusedVariables false
set_option linter.unusedSimpArgs false
namespace Go.Proofs.Ytlhaojpkejpgfaa
open Go.RowKit Go.Ecal

set_option maxRecDepth 100000 in
set_option maxHeartbeats 4000000 in
theorem rTag_c (v0 : Value) (k : List UInt8) (v1 : Value) (t : List UInt8) (w : World) (H0 : Bs w v0 k) (H1 : Bs w v1 t) (hk : k.length = 32) (ht : t.length ≤ 1000000) : Ret Try.prog 33 [v0, v1] w fun v w' => w'.ownsRow w.heap.size 5 1 v (tag k t).length ((tag k t).map byt) ∧ Below w.heap.size w w' := by
  refine ret_E Try.func33 rfl Try.ntmps33 (by simp) ?_
  refine EC_seq ?_
  refine EC_reg ?_
  refine EL_val (.slice none 0 0) w rfl (r_assign rfl) ?_
  refine EL_nil ?_
  refine thn_n ?_
  refine EC_seq ?_
  refine EC_reg ?_
  refine EL_val v0 w rfl (r_move rfl) ?_
  refine EL_val (cutV v0 0 16) w rfl (r_slice rfl H0 Try.underlying22 (by kernel_rfl) 0 16 (by first | omega | (simp; omega) | simp) (by first | omega | (simp; omega) | simp) (.inl ⟨rfl, rfl⟩) (.inr ⟨_, _, rfl, rfl⟩)) ?_
  have R11 : Bs w (cutV v0 0 16) (k.take 16) := Bs.upto H0 16 (by first | omega | (simp; omega) | simp)
  have L12 : (k.take 16).length = 16 - 0 := by first | (simp; done) | (simp; omega)
  have L16 := nu_len (k.take 16)
  refine EL_ret [(cutV v0 0 16)] rfl Try.func40 rfl nm40 rfl (rnumber_c (cutV v0 0 16) (k.take 16) w R11 (by first | omega | (simp; done) | (simp; omega))) ?_
  rintro p13 w17 ⟨O14, B15⟩
  have B18 : Below w.heap.size w w17 := B15
  refine EL_val p13 w17 rfl (r_assign rfl) ?_
  have hl0 : (nu (k.take 16)).length = 16 := by rw [nu_len]; simp; omega
  refine EL_nil ?_
  refine thn_n ?_
  refine EC_seq ?_
  refine EC_seq ?_
  refine EC_reg ?_
  refine EL_val (.int .i64 3) w17 rfl (r_assign rfl) ?_
  refine EL_nil ?_
  refine thn_n ?_
  refine EC_block ?_
  refine EC_for 5 ?_
  refine U_step ?_
  refine EC_seq ?_
  refine EC_seq ?_
  refine EC_reg ?_
  refine EL_val (.int .i64 3) w17 rfl (r_move rfl) ?_
  refine EL_val (.bool true) w17 rfl (r_dec (by decide) (r_lss rfl rfl)) ?_
  refine EL_nil ?_
  refine thn_n ?_
  refine EC_cond_true rfl ?_
  refine EC_skip ?_
  refine thn_n ?_
  refine EC_seq ?_
  refine EC_block ?_
  refine EC_reg ?_
  refine EL_val p13 w17 rfl (r_move rfl) ?_
  refine EL_val (.int .i64 3) w17 rfl (r_move rfl) ?_
  refine EL_val p13 w17 rfl (r_move rfl) ?_
  refine EL_val (.int .i64 3) w17 rfl (r_move rfl) ?_
  refine EL_val (.pointer (some (at_ p13 ((3 : Int).toNat)))) w17 rfl (r_index rfl (own_row O14) rfl (by omega) (by first | omega | (simp; omega) | simp) Try.underlying66 (by kernel_rfl)) ?_
  obtain ⟨x19, hx20⟩ := get_some (l := nu (k.take 16)) (j := (3 : Int).toNat) (by first | omega | (simp; omega) | simp)
  have dhx20 := dig_get (dig_num _) hx20
  refine EL_val (.int .i64 x19) w17 rfl (r_load rfl ((own_row O14).cell (int_get hx20)) Try.underlying3 rfl) ?_
  refine EL_int (x19 % 16) rfl (r_remi rfl rfl (by omega) (by omega)) ?_
  intro x21 hx21
  refine EL_val (.pointer (some (at_ p13 ((3 : Int).toNat)))) w17 rfl (r_index rfl (own_row O14) rfl (by omega) (by first | omega | (simp; omega) | simp) Try.underlying66 (by kernel_rfl)) ?_
  refine EL_store (u := .int .i64 x21) rfl rfl O14 (by first | omega | (simp; omega)) rfl (by kernel_rfl) ?_
  intro w22 O23 G24 z25
  have O23' := own_setF O23
  have B26 : Below w.heap.size w w22 := below_grew B18 G24 O14 (Nat.le_refl _) (B18.size)
  obtain ⟨rl1, er1⟩ : ∃ z, z = s16 (nu (k.take 16)) 3 := ⟨_, rfl⟩
  have eq0 : (nu (k.take 16)).set ((3 : Int).toNat) x21 = rl1 := by rw [er1, hx21]; exact s16_of hx20
  have dl0 : dig rl1 := by rw [er1]; exact s16_dig (dig_num _) _
  have hl1 : rl1.length = 16 := by rw [er1, s16_len, hl0]
  have O27 := own_asF O23' eq0
  refine EL_nil ?_
  refine inB_n ?_
  refine thn_n ?_
  refine EC_reg ?_
  refine EL_val (.int .i64 3) w22 rfl (r_move rfl) ?_
  refine EL_val (.int .i64 7) w22 rfl (r_asn (by kernel_rfl) (r_add rfl rfl)) ?_
  refine EL_val (.int .i64 7) w22 rfl (r_assign rfl) ?_
  refine EL_nil ?_
  refine thn_n ?_
  refine U_step ?_
  refine EC_seq ?_
  refine EC_seq ?_
  refine EC_reg ?_
  refine EL_val (.int .i64 7) w22 rfl (r_move rfl) ?_
  refine EL_val (.bool true) w22 rfl (r_dec (by decide) (r_lss rfl rfl)) ?_
  refine EL_nil ?_
  refine thn_n ?_
  refine EC_cond_true rfl ?_
  refine EC_skip ?_
  refine thn_n ?_
  refine EC_seq ?_
  refine EC_block ?_
  refine EC_reg ?_
  refine EL_val p13 w22 rfl (r_move rfl) ?_
  refine EL_val (.int .i64 7) w22 rfl (r_move rfl) ?_
  refine EL_val p13 w22 rfl (r_move rfl) ?_
  refine EL_val (.int .i64 7) w22 rfl (r_move rfl) ?_
  refine EL_val (.pointer (some (at_ p13 ((7 : Int).toNat)))) w22 rfl (r_index rfl (own_row O27) rfl (by omega) (by first | omega | (simp; omega) | simp) Try.underlying66 (by kernel_rfl)) ?_
  obtain ⟨x28, hx29⟩ := get_some (l := rl1) (j := (7 : Int).toNat) (by first | omega | (simp; omega) | simp)
  have dhx29 := dig_get dl0 hx29
  refine EL_val (.int .i64 x28) w22 rfl (r_load rfl ((own_row O27).cell (int_get hx29)) Try.underlying3 rfl) ?_
  refine EL_int (x28 % 16) rfl (r_remi rfl rfl (by omega) (by omega)) ?_
  intro x30 hx30
  refine EL_val (.pointer (some (at_ p13 ((7 : Int).toNat)))) w22 rfl (r_index rfl (own_row O27) rfl (by omega) (by first | omega | (simp; omega) | simp) Try.underlying66 (by kernel_rfl)) ?_
  refine EL_store (u := .int .i64 x30) rfl rfl O27 (by first | omega | (simp; omega)) rfl (by kernel_rfl) ?_
  intro w31 O32 G33 z34
  have O32' := own_setF O32
  have B35 : Below w.heap.size w w31 := below_grew B26 G33 O27 (Nat.le_refl _) (B26.size)
  obtain ⟨rl2, er2⟩ : ∃ z, z = s16 rl1 7 := ⟨_, rfl⟩
  have eq1 : rl1.set ((7 : Int).toNat) x30 = rl2 := by rw [er2, hx30]; exact s16_of hx29
  have dl1 : dig rl2 := by rw [er2]; exact s16_dig dl0 _
  have hl2 : rl2.length = 16 := by rw [er2, s16_len, hl1]
  have O36 := own_asF O32' eq1
  refine EL_nil ?_
  refine inB_n ?_
  refine thn_n ?_
  refine EC_reg ?_
  refine EL_val (.int .i64 7) w31 rfl (r_move rfl) ?_
  refine EL_val (.int .i64 11) w31 rfl (r_asn (by kernel_rfl) (r_add rfl rfl)) ?_
  refine EL_val (.int .i64 11) w31 rfl (r_assign rfl) ?_
  refine EL_nil ?_
  refine thn_n ?_
  refine U_step ?_
  refine EC_seq ?_
  refine EC_seq ?_
  refine EC_reg ?_
  refine EL_val (.int .i64 11) w31 rfl (r_move rfl) ?_
  refine EL_val (.bool true) w31 rfl (r_dec (by decide) (r_lss rfl rfl)) ?_
  refine EL_nil ?_
  refine thn_n ?_
  refine EC_cond_true rfl ?_
  refine EC_skip ?_
  refine thn_n ?_
  refine EC_seq ?_
  refine EC_block ?_
  refine EC_reg ?_
  refine EL_val p13 w31 rfl (r_move rfl) ?_
  refine EL_val (.int .i64 11) w31 rfl (r_move rfl) ?_
  refine EL_val p13 w31 rfl (r_move rfl) ?_
  refine EL_val (.int .i64 11) w31 rfl (r_move rfl) ?_
  refine EL_val (.pointer (some (at_ p13 ((11 : Int).toNat)))) w31 rfl (r_index rfl (own_row O36) rfl (by omega) (by first | omega | (simp; omega) | simp) Try.underlying66 (by kernel_rfl)) ?_
  obtain ⟨x37, hx38⟩ := get_some (l := rl2) (j := (11 : Int).toNat) (by first | omega | (simp; omega) | simp)
  have dhx38 := dig_get dl1 hx38
  refine EL_val (.int .i64 x37) w31 rfl (r_load rfl ((own_row O36).cell (int_get hx38)) Try.underlying3 rfl) ?_
  refine EL_int (x37 % 16) rfl (r_remi rfl rfl (by omega) (by omega)) ?_
  intro x39 hx39
  refine EL_val (.pointer (some (at_ p13 ((11 : Int).toNat)))) w31 rfl (r_index rfl (own_row O36) rfl (by omega) (by first | omega | (simp; omega) | simp) Try.underlying66 (by kernel_rfl)) ?_
  refine EL_store (u := .int .i64 x39) rfl rfl O36 (by first | omega | (simp; omega)) rfl (by kernel_rfl) ?_
  intro w40 O41 G42 z43
  have O41' := own_setF O41
  have B44 : Below w.heap.size w w40 := below_grew B35 G42 O36 (Nat.le_refl _) (B35.size)
  obtain ⟨rl3, er3⟩ : ∃ z, z = s16 rl2 11 := ⟨_, rfl⟩
  have eq2 : rl2.set ((11 : Int).toNat) x39 = rl3 := by rw [er3, hx39]; exact s16_of hx38
  have dl2 : dig rl3 := by rw [er3]; exact s16_dig dl1 _
  have hl3 : rl3.length = 16 := by rw [er3, s16_len, hl2]
  have O45 := own_asF O41' eq2
  refine EL_nil ?_
  refine inB_n ?_
  refine thn_n ?_
  refine EC_reg ?_
  refine EL_val (.int .i64 11) w40 rfl (r_move rfl) ?_
  refine EL_val (.int .i64 15) w40 rfl (r_asn (by kernel_rfl) (r_add rfl rfl)) ?_
  refine EL_val (.int .i64 15) w40 rfl (r_assign rfl) ?_
  refine EL_nil ?_
  refine thn_n ?_
  refine U_step ?_
  refine EC_seq ?_
  refine EC_seq ?_
  refine EC_reg ?_
  refine EL_val (.int .i64 15) w40 rfl (r_move rfl) ?_
  refine EL_val (.bool true) w40 rfl (r_dec (by decide) (r_lss rfl rfl)) ?_
  refine EL_nil ?_
  refine thn_n ?_
  refine EC_cond_true rfl ?_
  refine EC_skip ?_
  refine thn_n ?_
  refine EC_seq ?_
  refine EC_block ?_
  refine EC_reg ?_
  refine EL_val p13 w40 rfl (r_move rfl) ?_
  refine EL_val (.int .i64 15) w40 rfl (r_move rfl) ?_
  refine EL_val p13 w40 rfl (r_move rfl) ?_
  refine EL_val (.int .i64 15) w40 rfl (r_move rfl) ?_
  refine EL_val (.pointer (some (at_ p13 ((15 : Int).toNat)))) w40 rfl (r_index rfl (own_row O45) rfl (by omega) (by first | omega | (simp; omega) | simp) Try.underlying66 (by kernel_rfl)) ?_
  obtain ⟨x46, hx47⟩ := get_some (l := rl3) (j := (15 : Int).toNat) (by first | omega | (simp; omega) | simp)
  have dhx47 := dig_get dl2 hx47
  refine EL_val (.int .i64 x46) w40 rfl (r_load rfl ((own_row O45).cell (int_get hx47)) Try.underlying3 rfl) ?_
  refine EL_int (x46 % 16) rfl (r_remi rfl rfl (by omega) (by omega)) ?_
  intro x48 hx48
  refine EL_val (.pointer (some (at_ p13 ((15 : Int).toNat)))) w40 rfl (r_index rfl (own_row O45) rfl (by omega) (by first | omega | (simp; omega) | simp) Try.underlying66 (by kernel_rfl)) ?_
  refine EL_store (u := .int .i64 x48) rfl rfl O45 (by first | omega | (simp; omega)) rfl (by kernel_rfl) ?_
  intro w49 O50 G51 z52
  have O50' := own_setF O50
  have B53 : Below w.heap.size w w49 := below_grew B44 G51 O45 (Nat.le_refl _) (B44.size)
  obtain ⟨rl4, er4⟩ : ∃ z, z = s16 rl3 15 := ⟨_, rfl⟩
  have eq3 : rl3.set ((15 : Int).toNat) x48 = rl4 := by rw [er4, hx48]; exact s16_of hx47
  have dl3 : dig rl4 := by rw [er4]; exact s16_dig dl2 _
  have hl4 : rl4.length = 16 := by rw [er4, s16_len, hl3]
  have O54 := own_asF O50' eq3
  refine EL_nil ?_
  refine inB_n ?_
  refine thn_n ?_
  refine EC_reg ?_
  refine EL_val (.int .i64 15) w49 rfl (r_move rfl) ?_
  refine EL_val (.int .i64 19) w49 rfl (r_asn (by kernel_rfl) (r_add rfl rfl)) ?_
  refine EL_val (.int .i64 19) w49 rfl (r_assign rfl) ?_
  refine EL_nil ?_
  refine thn_n ?_
  refine U_step ?_
  refine EC_seq ?_
  refine EC_seq ?_
  refine EC_reg ?_
  refine EL_val (.int .i64 19) w49 rfl (r_move rfl) ?_
  refine EL_val (.bool false) w49 rfl (r_dec (by decide) (r_lss rfl rfl)) ?_
  refine EL_nil ?_
  refine thn_n ?_
  refine EC_cond_false rfl ?_
  refine EC_exit ?_
  refine thn_x ?_
  refine thn_x ?_
  refine inB_hit ?_
  refine thn_n ?_
  refine EC_seq ?_
  refine EC_seq ?_
  refine EC_reg ?_
  refine EL_val (.int .i64 4) w49 rfl (r_assign rfl) ?_
  refine EL_nil ?_
  refine thn_n ?_
  refine EC_block ?_
  refine EC_for 4 ?_
  refine U_step ?_
  refine EC_seq ?_
  refine EC_seq ?_
  refine EC_reg ?_
  refine EL_val (.int .i64 4) w49 rfl (r_move rfl) ?_
  refine EL_val (.bool true) w49 rfl (r_dec (by decide) (r_lss rfl rfl)) ?_
  refine EL_nil ?_
  refine thn_n ?_
  refine EC_cond_true rfl ?_
  refine EC_skip ?_
  refine thn_n ?_
  refine EC_seq ?_
  refine EC_block ?_
  refine EC_reg ?_
  refine EL_val p13 w49 rfl (r_move rfl) ?_
  refine EL_val (.int .i64 4) w49 rfl (r_move rfl) ?_
  refine EL_val p13 w49 rfl (r_move rfl) ?_
  refine EL_val (.int .i64 4) w49 rfl (r_move rfl) ?_
  refine EL_val (.pointer (some (at_ p13 ((4 : Int).toNat)))) w49 rfl (r_index rfl (own_row O54) rfl (by omega) (by first | omega | (simp; omega) | simp) Try.underlying66 (by kernel_rfl)) ?_
  obtain ⟨x55, hx56⟩ := get_some (l := rl4) (j := (4 : Int).toNat) (by first | omega | (simp; omega) | simp)
  have dhx56 := dig_get dl3 hx56
  refine EL_val (.int .i64 x55) w49 rfl (r_load rfl ((own_row O54).cell (int_get hx56)) Try.underlying3 rfl) ?_
  refine EL_int (x55 / 4) rfl (r_quoi rfl rfl (by omega) (by omega)) ?_
  intro x57 hx57
  refine EL_int (x57 * 4) rfl (r_muli rfl rfl (by omega)) ?_
  intro x58 hx58
  refine EL_val (.pointer (some (at_ p13 ((4 : Int).toNat)))) w49 rfl (r_index rfl (own_row O54) rfl (by omega) (by first | omega | (simp; omega) | simp) Try.underlying66 (by kernel_rfl)) ?_
  refine EL_store (u := .int .i64 x58) rfl rfl O54 (by first | omega | (simp; omega)) rfl (by kernel_rfl) ?_
  intro w59 O60 G61 z62
  have O60' := own_setF O60
  have B63 : Below w.heap.size w w59 := below_grew B53 G61 O54 (Nat.le_refl _) (B53.size)
  obtain ⟨rl5, er5⟩ : ∃ z, z = s4 rl4 4 := ⟨_, rfl⟩
  have eq4 : rl4.set ((4 : Int).toNat) x58 = rl5 := by rw [er5, hx58, hx57]; exact s4_of hx56
  have dl4 : dig rl5 := by rw [er5]; exact s4_dig dl3 _
  have hl5 : rl5.length = 16 := by rw [er5, s4_len, hl4]
  have O64 := own_asF O60' eq4
  refine EL_nil ?_
  refine inB_n ?_
  refine thn_n ?_
  refine EC_reg ?_
  refine EL_val (.int .i64 4) w59 rfl (r_move rfl) ?_
  refine EL_val (.int .i64 8) w59 rfl (r_asn (by kernel_rfl) (r_add rfl rfl)) ?_
  refine EL_val (.int .i64 8) w59 rfl (r_assign rfl) ?_
  refine EL_nil ?_
  refine thn_n ?_
  refine U_step ?_
  refine EC_seq ?_
  refine EC_seq ?_
  refine EC_reg ?_
  refine EL_val (.int .i64 8) w59 rfl (r_move rfl) ?_
  refine EL_val (.bool true) w59 rfl (r_dec (by decide) (r_lss rfl rfl)) ?_
  refine EL_nil ?_
  refine thn_n ?_
  refine EC_cond_true rfl ?_
  refine EC_skip ?_
  refine thn_n ?_
  refine EC_seq ?_
  refine EC_block ?_
  refine EC_reg ?_
  refine EL_val p13 w59 rfl (r_move rfl) ?_
  refine EL_val (.int .i64 8) w59 rfl (r_move rfl) ?_
  refine EL_val p13 w59 rfl (r_move rfl) ?_
  refine EL_val (.int .i64 8) w59 rfl (r_move rfl) ?_
  refine EL_val (.pointer (some (at_ p13 ((8 : Int).toNat)))) w59 rfl (r_index rfl (own_row O64) rfl (by omega) (by first | omega | (simp; omega) | simp) Try.underlying66 (by kernel_rfl)) ?_
  obtain ⟨x65, hx66⟩ := get_some (l := rl5) (j := (8 : Int).toNat) (by first | omega | (simp; omega) | simp)
  have dhx66 := dig_get dl4 hx66
  refine EL_val (.int .i64 x65) w59 rfl (r_load rfl ((own_row O64).cell (int_get hx66)) Try.underlying3 rfl) ?_
  refine EL_int (x65 / 4) rfl (r_quoi rfl rfl (by omega) (by omega)) ?_
  intro x67 hx67
  refine EL_int (x67 * 4) rfl (r_muli rfl rfl (by omega)) ?_
  intro x68 hx68
  refine EL_val (.pointer (some (at_ p13 ((8 : Int).toNat)))) w59 rfl (r_index rfl (own_row O64) rfl (by omega) (by first | omega | (simp; omega) | simp) Try.underlying66 (by kernel_rfl)) ?_
  refine EL_store (u := .int .i64 x68) rfl rfl O64 (by first | omega | (simp; omega)) rfl (by kernel_rfl) ?_
  intro w69 O70 G71 z72
  have O70' := own_setF O70
  have B73 : Below w.heap.size w w69 := below_grew B63 G71 O64 (Nat.le_refl _) (B63.size)
  obtain ⟨rl6, er6⟩ : ∃ z, z = s4 rl5 8 := ⟨_, rfl⟩
  have eq5 : rl5.set ((8 : Int).toNat) x68 = rl6 := by rw [er6, hx68, hx67]; exact s4_of hx66
  have dl5 : dig rl6 := by rw [er6]; exact s4_dig dl4 _
  have hl6 : rl6.length = 16 := by rw [er6, s4_len, hl5]
  have O74 := own_asF O70' eq5
  refine EL_nil ?_
  refine inB_n ?_
  refine thn_n ?_
  refine EC_reg ?_
  refine EL_val (.int .i64 8) w69 rfl (r_move rfl) ?_
  refine EL_val (.int .i64 12) w69 rfl (r_asn (by kernel_rfl) (r_add rfl rfl)) ?_
  refine EL_val (.int .i64 12) w69 rfl (r_assign rfl) ?_
  refine EL_nil ?_
  refine thn_n ?_
  refine U_step ?_
  refine EC_seq ?_
  refine EC_seq ?_
  refine EC_reg ?_
  refine EL_val (.int .i64 12) w69 rfl (r_move rfl) ?_
  refine EL_val (.bool true) w69 rfl (r_dec (by decide) (r_lss rfl rfl)) ?_
  refine EL_nil ?_
  refine thn_n ?_
  refine EC_cond_true rfl ?_
  refine EC_skip ?_
  refine thn_n ?_
  refine EC_seq ?_
  refine EC_block ?_
  refine EC_reg ?_
  refine EL_val p13 w69 rfl (r_move rfl) ?_
  refine EL_val (.int .i64 12) w69 rfl (r_move rfl) ?_
  refine EL_val p13 w69 rfl (r_move rfl) ?_
  refine EL_val (.int .i64 12) w69 rfl (r_move rfl) ?_
  refine EL_val (.pointer (some (at_ p13 ((12 : Int).toNat)))) w69 rfl (r_index rfl (own_row O74) rfl (by omega) (by first | omega | (simp; omega) | simp) Try.underlying66 (by kernel_rfl)) ?_
  obtain ⟨x75, hx76⟩ := get_some (l := rl6) (j := (12 : Int).toNat) (by first | omega | (simp; omega) | simp)
  have dhx76 := dig_get dl5 hx76
  refine EL_val (.int .i64 x75) w69 rfl (r_load rfl ((own_row O74).cell (int_get hx76)) Try.underlying3 rfl) ?_
  refine EL_int (x75 / 4) rfl (r_quoi rfl rfl (by omega) (by omega)) ?_
  intro x77 hx77
  refine EL_int (x77 * 4) rfl (r_muli rfl rfl (by omega)) ?_
  intro x78 hx78
  refine EL_val (.pointer (some (at_ p13 ((12 : Int).toNat)))) w69 rfl (r_index rfl (own_row O74) rfl (by omega) (by first | omega | (simp; omega) | simp) Try.underlying66 (by kernel_rfl)) ?_
  refine EL_store (u := .int .i64 x78) rfl rfl O74 (by first | omega | (simp; omega)) rfl (by kernel_rfl) ?_
  intro w79 O80 G81 z82
  have O80' := own_setF O80
  have B83 : Below w.heap.size w w79 := below_grew B73 G81 O74 (Nat.le_refl _) (B73.size)
  obtain ⟨rl7, er7⟩ : ∃ z, z = s4 rl6 12 := ⟨_, rfl⟩
  have eq6 : rl6.set ((12 : Int).toNat) x78 = rl7 := by rw [er7, hx78, hx77]; exact s4_of hx76
  have dl6 : dig rl7 := by rw [er7]; exact s4_dig dl5 _
  have hl7 : rl7.length = 16 := by rw [er7, s4_len, hl6]
  have O84 := own_asF O80' eq6
  refine EL_nil ?_
  refine inB_n ?_
  refine thn_n ?_
  refine EC_reg ?_
  refine EL_val (.int .i64 12) w79 rfl (r_move rfl) ?_
  refine EL_val (.int .i64 16) w79 rfl (r_asn (by kernel_rfl) (r_add rfl rfl)) ?_
  refine EL_val (.int .i64 16) w79 rfl (r_assign rfl) ?_
  refine EL_nil ?_
  refine thn_n ?_
  refine U_step ?_
  refine EC_seq ?_
  refine EC_seq ?_
  refine EC_reg ?_
  refine EL_val (.int .i64 16) w79 rfl (r_move rfl) ?_
  refine EL_val (.bool false) w79 rfl (r_dec (by decide) (r_lss rfl rfl)) ?_
  refine EL_nil ?_
  refine thn_n ?_
  refine EC_cond_false rfl ?_
  refine EC_exit ?_
  refine thn_x ?_
  refine thn_x ?_
  refine inB_hit ?_
  refine thn_n ?_
  refine EC_seq ?_
  refine EC_reg ?_
  refine EL_val (.slice none 0 0) w79 rfl (r_assign rfl) ?_
  refine EL_nil ?_
  refine thn_n ?_
  refine EC_seq ?_
  refine EC_seq ?_
  refine EC_reg ?_
  refine EL_val (.int .i64 0) w79 rfl (r_assign rfl) ?_
  refine EL_nil ?_
  refine thn_n ?_
  refine EC_block ?_
  have er : rl7 = rd k := by rw [er7, er6, er5, er4, er3, er2, er1]; rfl
  have vr : val rl7 = cl (num (k.take 16)) := by rw [er]; exact rd_val (by omega)
  refine EC_loop (fun m' E' w' => ∃ i : Int, ∃ av : Value, ∃ al : List Int, m' = (t.length + 32 - i).toNat ∧ E' 9 = .int .i64 i ∧ E' 8 = av ∧ E' 0 = v0 ∧ E' 1 = v1 ∧ E' 4 = .slice none 0 0 ∧ E' 5 = p13 ∧ (0 ≤ i ∧ i % 16 = 0 ∧ i ≤ t.length + 15) ∧ (dig al) ∧ ((al.length : Int) ≤ 20 + 2 * i) ∧ (accS (cl (num (k.take 16))) (val al) (t.drop i.toNat) = accS (cl (num (k.take 16))) 0 t) ∧ Below w.heap.size w w' ∧ Below w79.heap.size w79 w' ∧ Row w' av ((al).map (Value.int .i64))) _ ⟨0, .slice none 0 0, [], rfl, rfl, rfl, rfl, rfl, rfl, rfl, by omega, dig_nil, by simp, by simp [val], B83, (Below.refl _ _), (Row.nil _)⟩ ?_
  rintro _ E85 w86 ⟨i, av, al, rfl, e87, e88, e89, e90, e91, e92, hi, hd, hl, hv, B93, B94, R95⟩
  refine EC_seq ?_
  refine EC_seq ?_
  refine EC_reg ?_
  refine EL_val (.int .i64 i) w86 rfl (r_move (by exact e87)) ?_
  refine EL_val v1 w86 rfl (r_move (by exact e90)) ?_
  refine EL_val (.int .i64 (t.length : Int)) w86 rfl (lenB (r_len rfl (H1.below B93) Try.underlying22)) ?_
  refine EL_val (.bool (decide (i < (t.length : Int)))) w86 rfl (r_lss rfl rfl) ?_
  refine EL_nil ?_
  refine thn_n ?_
  refine EC_if (p := i < (t.length : Int)) rfl (fun h96 => ?_) (fun h96 => ?_)
  · refine EC_skip ?_
    refine thn_n ?_
    refine EC_seq ?_
    refine EC_block ?_
    refine EC_seq ?_
    refine EC_reg ?_
    refine EL_val (.int .i64 i) w86 rfl (r_move (by exact e87)) ?_
    refine EL_int (i + 16) rfl (r_addi rfl rfl (by omega)) ?_
    intro x97 hx97
    refine EL_val (.int .i64 x97) w86 rfl (r_assign rfl) ?_
    refine EL_nil ?_
    refine thn_n ?_
    refine EC_seq ?_
    refine EC_seq ?_
    refine EC_reg ?_
    refine EL_val (.int .i64 x97) w86 rfl (r_move rfl) ?_
    refine EL_val v1 w86 rfl (r_move (by exact e90)) ?_
    refine EL_val (.int .i64 (t.length : Int)) w86 rfl (lenB (r_len rfl (H1.below B93) Try.underlying22)) ?_
    refine EL_val (.bool (decide ((t.length : Int) < x97))) w86 rfl (r_gtr rfl rfl) ?_
    refine EL_nil ?_
    refine thn_n ?_
    refine EC_if (p := (t.length : Int) < x97) rfl (fun h98 => ?_) (fun h98 => ?_)
    · refine EC_reg ?_
      refine EL_val v1 w86 rfl (r_move (by exact e90)) ?_
      refine EL_val (.int .i64 (t.length : Int)) w86 rfl (lenB (r_len rfl (H1.below B93) Try.underlying22)) ?_
      refine EL_val (.int .i64 (t.length : Int)) w86 rfl (r_assign rfl) ?_
      refine EL_nil ?_
      refine thn_n ?_
      refine EC_reg ?_
      refine EL_val av w86 rfl (r_move (by exact e88)) ?_
      refine EL_val v1 w86 rfl (r_move (by exact e90)) ?_
      refine EL_val (.int .i64 i) w86 rfl (r_move (by exact e87)) ?_
      refine EL_val (.int .i64 (t.length : Int)) w86 rfl (r_move rfl) ?_
      refine EL_val (cutV v1 ((i : Int).toNat) (((t.length : Int) : Int).toNat)) w86 rfl (r_slice rfl (H1.below B93) Try.underlying22 (by kernel_rfl) ((i : Int).toNat) (((t.length : Int) : Int).toNat) (by first | omega | (simp; omega) | simp) (by first | omega | (simp; omega) | simp) (.inr ⟨_, _, rfl, (show _ = Value.int .i64 ((i : Int).toNat : Int) from by rw [Int.toNat_of_nonneg (by omega)]; exact rfl)⟩) (.inr ⟨_, _, rfl, (show _ = Value.int .i64 (((t.length : Int) : Int).toNat : Int) from by rw [Int.toNat_of_nonneg (by omega)]; exact rfl)⟩)) ?_
      have R99 : Bs w (cutV v1 ((i : Int).toNat) (((t.length : Int) : Int).toNat)) ((t.take (((t.length : Int) : Int).toNat)).drop ((i : Int).toNat)) := Bs.cut H1 ((i : Int).toNat) (((t.length : Int) : Int).toNat) (by first | omega | (simp; omega) | simp) (by first | omega | (simp; omega) | simp)
      have L100 : ((t.take (((t.length : Int) : Int).toNat)).drop ((i : Int).toNat)).length = (((t.length : Int) : Int).toNat) - ((i : Int).toNat) := by first | (simp; done) | (simp; omega)
      have ck : (t.take (((t.length : Int) : Int).toNat)).drop ((i : Int).toNat) = (t.drop i.toNat).take 16 := chunk_eq (by omega) (by omega)
      have cl16 : ((t.drop i.toNat).take 16).length ≤ 16 := by simp; omega
      have cn : (nu ((t.take (((t.length : Int) : Int).toNat)).drop ((i : Int).toNat))).length ≤ 16 := by rw [nu_len, ck]; exact cl16
      have L104 := nu_len ((t.take (((t.length : Int) : Int).toNat)).drop ((i : Int).toNat))
      refine EL_ret [(cutV v1 ((i : Int).toNat) (((t.length : Int) : Int).toNat))] rfl Try.func40 rfl nm40 rfl (rnumber_c (cutV v1 ((i : Int).toNat) (((t.length : Int) : Int).toNat)) ((t.take (((t.length : Int) : Int).toNat)).drop ((i : Int).toNat)) w86 (R99.below B93) (by first | omega | (simp; done) | (simp; omega))) ?_
      rintro p101 w105 ⟨O102, B103⟩
      have B106 : Below w.heap.size w w105 := below_full B93 B93.size B103
      have B107 : Below w79.heap.size w79 w105 := below_full B94 B94.size B103
      have B108 : Below w86.heap.size w86 w105 := B103
      refine EL_lit w105.heap.size #[.int .i64 1] el_i64 rfl (by decide) rfl (Nat.le_refl _) (by kernel_rfl) ?_
      intro v109 w110 O111 B112 k113 z114
      have B115 : Below w.heap.size w w110 := below_full B106 B106.size B112
      have B116 : Below w79.heap.size w79 w110 := below_full B107 B107.size B112
      have B117 : Below w86.heap.size w86 w110 := below_full B108 B108.size B112
      have B118 : Below w105.heap.size w105 w110 := B112
      have O111' := own_eqF (f := Value.int .i64) (l := [1]) O111 rfl
      refine EL_append (v := p101) (xs := (nu ((t.take (((t.length : Int) : Int).toNat)).drop ((i : Int).toNat))).map (Value.int .i64)) (ys := [1].map (Value.int .i64)) w86.heap.size el_i64 rfl rfl rfl (by simpa using (own_below O102 B118)) (own_row O111') (int_one _) (by first | (simp only [List.length_map, List.length_nil]; omega) | (simp only [List.length_map, List.length_cons, List.length_nil]; omega) | (simp; done) | (simp; omega)) (by decide) B117.size ?_
      intro v119 w120 O121 G122 A123
      have O121' := own_appF O121
      have B124 : Below w.heap.size w w120 := below_grew B115 G122 (own_below O102 B118) B93.size (B115.size)
      have B125 : Below w79.heap.size w79 w120 := below_grew B116 G122 (own_below O102 B118) B94.size (B116.size)
      have B126 : Below w86.heap.size w86 w120 := below_grew B117 G122 (own_below O102 B118) (Nat.le_refl _) (B117.size)
      have cv : val ((nu ((t.take (((t.length : Int) : Int).toNat)).drop ((i : Int).toNat))) ++ [1]) = num ((t.drop i.toNat).take 16 ++ [1]) := by rw [ck]; exact chunk_val cl16
      have cn1 : ((nu ((t.take (((t.length : Int) : Int).toNat)).drop ((i : Int).toNat))) ++ [1]).length ≤ 17 := by simp only [List.length_append, List.length_cons, List.length_nil]; omega
      refine EL_ret [av, v119] rfl Try.func43 rfl nm43 rfl (radd_c av al v119 ((nu ((t.take (((t.length : Int) : Int).toNat)).drop ((i : Int).toNat))) ++ [1]) w120 (R95.below B126) (own_row O121') hd (dig_app (dig_num _) (dig_one (by decide))) (by first | omega | (simp; done) | (simp; omega)) (by first | omega | (simp; done) | (simp; omega))) ?_
      rintro p135 w138 ⟨o129, O136, B137, d130, v131, l132, l133, l134⟩
      have B139 : Below w.heap.size w w138 := below_full B124 B124.size B137
      have B140 : Below w79.heap.size w79 w138 := below_full B125 B125.size B137
      have B141 : Below w86.heap.size w86 w138 := below_full B126 B126.size B137
      have B142 : Below w120.heap.size w120 w138 := B137
      refine EL_val p13 w138 rfl (r_move (by exact e92)) ?_
      refine EL_ret [p135, p13] rfl Try.func42 rfl nm42 rfl (rtimes_c p135 o129 p13 rl7 w138 (own_row O136) ((own_row O84).below B140) d130 dl6 (by first | omega | (simp; done) | (simp; omega)) (by first | omega | (simp; done) | (simp; omega))) ?_
      rintro p147 w150 ⟨o143, O148, B149, d144, v145, l146⟩
      have B151 : Below w.heap.size w w150 := below_full B139 B139.size B149
      have B152 : Below w79.heap.size w79 w150 := below_full B140 B140.size B149
      have B153 : Below w86.heap.size w86 w150 := below_full B141 B141.size B149
      have B154 : Below w120.heap.size w120 w150 := below_full B142 B142.size B149
      have B155 : Below w138.heap.size w138 w150 := B149
      refine EL_ret [p147] rfl Try.func41 rfl nm41 rfl (rleast_c p147 o143 w150 (own_row O148) d144 (by first | omega | (simp; done) | (simp; omega))) ?_
      rintro p160 w163 ⟨o156, R158, B159, d157, l161, l162⟩
      have B164 : Below w.heap.size w w163 := below_full B151 B151.size B159
      have B165 : Below w79.heap.size w79 w163 := below_full B152 B152.size B159
      have B166 : Below w86.heap.size w86 w163 := below_full B153 B153.size B159
      have B167 : Below w120.heap.size w120 w163 := below_full B154 B154.size B159
      have B168 : Below w138.heap.size w138 w163 := below_full B155 B155.size B159
      have B169 : Below w150.heap.size w150 w163 := B159
      refine EL_val p160 w163 rfl (r_assign rfl) ?_
      refine EL_nil ?_
      refine inB_n ?_
      refine thn_n ?_
      refine EC_reg ?_
      refine EL_val (.int .i64 i) w163 rfl (r_move (by exact e87)) ?_
      refine EL_int (i + 16) rfl (r_addi rfl rfl (by omega)) ?_
      intro x170 hx170
      refine EL_val (.int .i64 x170) w163 rfl (r_assign rfl) ?_
      refine EL_nil ?_
      refine thn_n ?_
      have inv := accS_step (cl (num (k.take 16))) (val al) (t := t.drop i.toNat) (by simp; omega)
      rw [hv, ← cv, ← v131, ← vr, ← v145, ← l161, List.drop_drop, show i.toNat + 16 = (x170 : Int).toNat from by omega] at inv
      refine ⟨_, ?_, x170, p160, o156, rfl, rfl, rfl, (by exact e89), (by exact e90), (by exact e91), (by exact e92), by omega, d157, by omega, by rw [← vr]; exact inv.symm, B164, B165, R158⟩
      first | omega | (simp; omega)
    · refine EC_skip ?_
      refine thn_n ?_
      refine EC_reg ?_
      refine EL_val av w86 rfl (r_move (by exact e88)) ?_
      refine EL_val v1 w86 rfl (r_move (by exact e90)) ?_
      refine EL_val (.int .i64 i) w86 rfl (r_move (by exact e87)) ?_
      refine EL_val (.int .i64 x97) w86 rfl (r_move rfl) ?_
      refine EL_val (cutV v1 ((i : Int).toNat) ((x97 : Int).toNat)) w86 rfl (r_slice rfl (H1.below B93) Try.underlying22 (by kernel_rfl) ((i : Int).toNat) ((x97 : Int).toNat) (by first | omega | (simp; omega) | simp) (by first | omega | (simp; omega) | simp) (.inr ⟨_, _, rfl, (show _ = Value.int .i64 ((i : Int).toNat : Int) from by rw [Int.toNat_of_nonneg (by omega)]; exact rfl)⟩) (.inr ⟨_, _, rfl, (show _ = Value.int .i64 ((x97 : Int).toNat : Int) from by rw [Int.toNat_of_nonneg (by omega)]; exact rfl)⟩)) ?_
      have R171 : Bs w (cutV v1 ((i : Int).toNat) ((x97 : Int).toNat)) ((t.take ((x97 : Int).toNat)).drop ((i : Int).toNat)) := Bs.cut H1 ((i : Int).toNat) ((x97 : Int).toNat) (by first | omega | (simp; omega) | simp) (by first | omega | (simp; omega) | simp)
      have L172 : ((t.take ((x97 : Int).toNat)).drop ((i : Int).toNat)).length = ((x97 : Int).toNat) - ((i : Int).toNat) := by first | (simp; done) | (simp; omega)
      have ck : (t.take ((x97 : Int).toNat)).drop ((i : Int).toNat) = (t.drop i.toNat).take 16 := chunk_eq (by omega) (by omega)
      have cl16 : ((t.drop i.toNat).take 16).length ≤ 16 := by simp; omega
      have cn : (nu ((t.take ((x97 : Int).toNat)).drop ((i : Int).toNat))).length ≤ 16 := by rw [nu_len, ck]; exact cl16
      have L176 := nu_len ((t.take ((x97 : Int).toNat)).drop ((i : Int).toNat))
      refine EL_ret [(cutV v1 ((i : Int).toNat) ((x97 : Int).toNat))] rfl Try.func40 rfl nm40 rfl (rnumber_c (cutV v1 ((i : Int).toNat) ((x97 : Int).toNat)) ((t.take ((x97 : Int).toNat)).drop ((i : Int).toNat)) w86 (R171.below B93) (by first | omega | (simp; done) | (simp; omega))) ?_
      rintro p173 w177 ⟨O174, B175⟩
      have B178 : Below w.heap.size w w177 := below_full B93 B93.size B175
      have B179 : Below w79.heap.size w79 w177 := below_full B94 B94.size B175
      have B180 : Below w86.heap.size w86 w177 := B175
      refine EL_lit w177.heap.size #[.int .i64 1] el_i64 rfl (by decide) rfl (Nat.le_refl _) (by kernel_rfl) ?_
      intro v181 w182 O183 B184 k185 z186
      have B187 : Below w.heap.size w w182 := below_full B178 B178.size B184
      have B188 : Below w79.heap.size w79 w182 := below_full B179 B179.size B184
      have B189 : Below w86.heap.size w86 w182 := below_full B180 B180.size B184
      have B190 : Below w177.heap.size w177 w182 := B184
      have O183' := own_eqF (f := Value.int .i64) (l := [1]) O183 rfl
      refine EL_append (v := p173) (xs := (nu ((t.take ((x97 : Int).toNat)).drop ((i : Int).toNat))).map (Value.int .i64)) (ys := [1].map (Value.int .i64)) w86.heap.size el_i64 rfl rfl rfl (by simpa using (own_below O174 B190)) (own_row O183') (int_one _) (by first | (simp only [List.length_map, List.length_nil]; omega) | (simp only [List.length_map, List.length_cons, List.length_nil]; omega) | (simp; done) | (simp; omega)) (by decide) B189.size ?_
      intro v191 w192 O193 G194 A195
      have O193' := own_appF O193
      have B196 : Below w.heap.size w w192 := below_grew B187 G194 (own_below O174 B190) B93.size (B187.size)
      have B197 : Below w79.heap.size w79 w192 := below_grew B188 G194 (own_below O174 B190) B94.size (B188.size)
      have B198 : Below w86.heap.size w86 w192 := below_grew B189 G194 (own_below O174 B190) (Nat.le_refl _) (B189.size)
      have cv : val ((nu ((t.take ((x97 : Int).toNat)).drop ((i : Int).toNat))) ++ [1]) = num ((t.drop i.toNat).take 16 ++ [1]) := by rw [ck]; exact chunk_val cl16
      have cn1 : ((nu ((t.take ((x97 : Int).toNat)).drop ((i : Int).toNat))) ++ [1]).length ≤ 17 := by simp only [List.length_append, List.length_cons, List.length_nil]; omega
      refine EL_ret [av, v191] rfl Try.func43 rfl nm43 rfl (radd_c av al v191 ((nu ((t.take ((x97 : Int).toNat)).drop ((i : Int).toNat))) ++ [1]) w192 (R95.below B198) (own_row O193') hd (dig_app (dig_num _) (dig_one (by decide))) (by first | omega | (simp; done) | (simp; omega)) (by first | omega | (simp; done) | (simp; omega))) ?_
      rintro p207 w210 ⟨o201, O208, B209, d202, v203, l204, l205, l206⟩
      have B211 : Below w.heap.size w w210 := below_full B196 B196.size B209
      have B212 : Below w79.heap.size w79 w210 := below_full B197 B197.size B209
      have B213 : Below w86.heap.size w86 w210 := below_full B198 B198.size B209
      have B214 : Below w192.heap.size w192 w210 := B209
      refine EL_val p13 w210 rfl (r_move (by exact e92)) ?_
      refine EL_ret [p207, p13] rfl Try.func42 rfl nm42 rfl (rtimes_c p207 o201 p13 rl7 w210 (own_row O208) ((own_row O84).below B212) d202 dl6 (by first | omega | (simp; done) | (simp; omega)) (by first | omega | (simp; done) | (simp; omega))) ?_
      rintro p219 w222 ⟨o215, O220, B221, d216, v217, l218⟩
      have B223 : Below w.heap.size w w222 := below_full B211 B211.size B221
      have B224 : Below w79.heap.size w79 w222 := below_full B212 B212.size B221
      have B225 : Below w86.heap.size w86 w222 := below_full B213 B213.size B221
      have B226 : Below w192.heap.size w192 w222 := below_full B214 B214.size B221
      have B227 : Below w210.heap.size w210 w222 := B221
      refine EL_ret [p219] rfl Try.func41 rfl nm41 rfl (rleast_c p219 o215 w222 (own_row O220) d216 (by first | omega | (simp; done) | (simp; omega))) ?_
      rintro p232 w235 ⟨o228, R230, B231, d229, l233, l234⟩
      have B236 : Below w.heap.size w w235 := below_full B223 B223.size B231
      have B237 : Below w79.heap.size w79 w235 := below_full B224 B224.size B231
      have B238 : Below w86.heap.size w86 w235 := below_full B225 B225.size B231
      have B239 : Below w192.heap.size w192 w235 := below_full B226 B226.size B231
      have B240 : Below w210.heap.size w210 w235 := below_full B227 B227.size B231
      have B241 : Below w222.heap.size w222 w235 := B231
      refine EL_val p232 w235 rfl (r_assign rfl) ?_
      refine EL_nil ?_
      refine inB_n ?_
      refine thn_n ?_
      refine EC_reg ?_
      refine EL_val (.int .i64 i) w235 rfl (r_move (by exact e87)) ?_
      refine EL_int (i + 16) rfl (r_addi rfl rfl (by omega)) ?_
      intro x242 hx242
      refine EL_val (.int .i64 x242) w235 rfl (r_assign rfl) ?_
      refine EL_nil ?_
      refine thn_n ?_
      have inv := accS_step (cl (num (k.take 16))) (val al) (t := t.drop i.toNat) (by simp; omega)
      rw [hv, ← cv, ← v203, ← vr, ← v217, ← l233, List.drop_drop, show i.toNat + 16 = (x242 : Int).toNat from by omega] at inv
      refine ⟨_, ?_, x242, p232, o228, rfl, rfl, rfl, (by exact e89), (by exact e90), (by exact e91), (by exact e92), by omega, d229, by omega, by rw [← vr]; exact inv.symm, B236, B237, R230⟩
      first | omega | (simp; omega)
  · refine EC_exit ?_
    refine thn_x ?_
    refine thn_x ?_
    refine inB_hit ?_
    refine thn_n ?_
    refine EC_seq ?_
    refine EC_reg ?_
    have e0 : t.drop i.toNat = [] := List.drop_eq_nil_of_le (by omega)
    rw [e0, accS_nil] at hv
    refine EL_val av w86 rfl (r_move (by exact e88)) ?_
    refine EL_val v0 w86 rfl (r_move (by exact e89)) ?_
    refine EL_val (cutV v0 16 k.length) w86 rfl (r_slice rfl (H0.below B93) Try.underlying22 (by kernel_rfl) 16 k.length (by first | omega | (simp; omega) | simp) (by first | omega | (simp; omega) | simp) (.inr ⟨_, _, rfl, rfl⟩) (.inl ⟨rfl, by simp⟩)) ?_
    have R243 : Bs w (cutV v0 16 k.length) (k.drop 16) := Bs.from H0 16 (by first | omega | (simp; omega) | simp)
    have L244 : (k.drop 16).length = k.length - 16 := by first | (simp; done) | (simp; omega)
    have L248 := nu_len (k.drop 16)
    refine EL_ret [(cutV v0 16 k.length)] rfl Try.func40 rfl nm40 rfl (rnumber_c (cutV v0 16 k.length) (k.drop 16) w86 (R243.below B93) (by first | omega | (simp; done) | (simp; omega))) ?_
    rintro p245 w249 ⟨O246, B247⟩
    have B250 : Below w.heap.size w w249 := below_full B93 B93.size B247
    have B251 : Below w79.heap.size w79 w249 := below_full B94 B94.size B247
    have B252 : Below w86.heap.size w86 w249 := B247
    refine EL_ret [av, p245] rfl Try.func43 rfl nm43 rfl (radd_c av al p245 (nu (k.drop 16)) w249 (R95.below B252) (own_row O246) hd (dig_num _) (by first | omega | (simp; done) | (simp; omega)) (by first | omega | (simp; done) | (simp; omega))) ?_
    rintro p259 w262 ⟨o253, O260, B261, d254, v255, l256, l257, l258⟩
    have B263 : Below w.heap.size w w262 := below_full B250 B250.size B261
    have B264 : Below w79.heap.size w79 w262 := below_full B251 B251.size B261
    have B265 : Below w86.heap.size w86 w262 := below_full B252 B252.size B261
    have B266 : Below w249.heap.size w249 w262 := B261
    refine EL_val p259 w262 rfl (r_assign rfl) ?_
    refine EL_nil ?_
    refine thn_n ?_
    refine EC_seq ?_
    refine EC_reg ?_
    refine EL_val (.slice none 0 0) w262 rfl (r_assign rfl) ?_
    refine EL_nil ?_
    refine thn_n ?_
    refine EC_seq ?_
    refine EC_seq ?_
    refine EC_reg ?_
    refine EL_val (.int .i64 0) w262 rfl (r_assign rfl) ?_
    refine EL_nil ?_
    refine thn_n ?_
    refine EC_block ?_
    have ef : val o253 = accS (cl (num (k.take 16))) 0 t + num (k.drop 16) := by rw [v255, hv, num_nu (by simp; omega)]
    refine EC_loop (fun m' E' w' => ∃ i2 : Int, ∃ ov : Value, m' = (16 - i2).toNat ∧ E' 12 = .int .i64 i2 ∧ E' 11 = ov ∧ E' 4 = .slice none 0 0 ∧ E' 8 = p259 ∧ (0 ≤ i2 ∧ i2 ≤ 16) ∧ ((tgn (val o253) i2.toNat).length ≤ 100) ∧ Below w.heap.size w w' ∧ Below w79.heap.size w79 w' ∧ Below w86.heap.size w86 w' ∧ Below w249.heap.size w249 w' ∧ Below w262.heap.size w262 w' ∧ w'.ownsRow w262.heap.size 5 1 ov (tgn (val o253) i2.toNat).length ((tgn (val o253) i2.toNat).map byt)) _ ⟨0, .slice none 0 0, rfl, rfl, rfl, (by exact e91), rfl, by omega, by rw [tgn_len]; simp, B263, B264, B265, B266, (Below.refl _ _), (World.ownsRow_nil _ _ _ _)⟩ ?_
    rintro _ E267 w268 ⟨i2, ov, rfl, e269, e270, e271, e272, hi2, hn2, B273, B274, B275, B276, B277, O278⟩
    refine EC_seq ?_
    refine EC_seq ?_
    refine EC_reg ?_
    refine EL_val (.int .i64 i2) w268 rfl (r_move (by exact e269)) ?_
    refine EL_val (.bool (decide (i2 < 16))) w268 rfl (r_lss rfl rfl) ?_
    refine EL_nil ?_
    refine thn_n ?_
    refine EC_if (p := i2 < 16) rfl (fun h279 => ?_) (fun h279 => ?_)
    · refine EC_skip ?_
      refine thn_n ?_
      refine EC_seq ?_
      refine EC_block ?_
      refine EC_seq ?_
      refine EC_reg ?_
      refine EL_val (.int .i64 0) w268 rfl (r_assign rfl) ?_
      refine EL_nil ?_
      refine thn_n ?_
      refine EC_seq ?_
      refine EC_seq ?_
      refine EC_reg ?_
      refine EL_val (.int .i64 i2) w268 rfl (r_move (by exact e269)) ?_
      refine EL_val p259 w268 rfl (r_move (by exact e272)) ?_
      refine EL_val (.int .i64 (o253.length : Int)) w268 rfl (lenF (r_len rfl ((own_row O260).below B277) Try.underlying66)) ?_
      refine EL_val (.bool (decide (i2 < (o253.length : Int)))) w268 rfl (r_lss rfl rfl) ?_
      refine EL_nil ?_
      refine thn_n ?_
      refine EC_if (p := i2 < (o253.length : Int)) rfl (fun h280 => ?_) (fun h280 => ?_)
      · refine EC_reg ?_
        refine EL_val p259 w268 rfl (r_move (by exact e272)) ?_
        refine EL_val (.int .i64 i2) w268 rfl (r_move (by exact e269)) ?_
        refine EL_val (.pointer (some (at_ p259 ((i2 : Int).toNat)))) w268 rfl (r_index rfl ((own_row O260).below B277) rfl (by omega) (by first | omega | (simp; omega) | simp) Try.underlying66 (by kernel_rfl)) ?_
        obtain ⟨x281, hx282⟩ := get_some (l := o253) (j := (i2 : Int).toNat) (by first | omega | (simp; omega) | simp)
        have dhx282 := dig_get d254 hx282
        refine EL_val (.int .i64 x281) w268 rfl (r_load rfl (((own_row O260).below B277).cell (int_get hx282)) Try.underlying3 rfl) ?_
        refine EL_val (.int .i64 x281) w268 rfl (r_assign rfl) ?_
        refine EL_nil ?_
        refine thn_n ?_
        refine EC_reg ?_
        refine EL_val ov w268 rfl (r_move (by exact e270)) ?_
        refine EL_val (.int .i64 x281) w268 rfl (r_move rfl) ?_
        refine EL_val (.int .u8 (x281 % 256)) w268 rfl (r_convb 3 5 rfl Try.underlying3 Try.underlying5) ?_
        refine EL_lit w268.heap.size #[.int .u8 (x281 % 256)] elB rfl (by decide) rfl (Nat.le_refl _) (by kernel_rfl) ?_
        intro v283 w284 O285 B286 k287 z288
        have B289 : Below w.heap.size w w284 := below_full B273 B273.size B286
        have B290 : Below w79.heap.size w79 w284 := below_full B274 B274.size B286
        have B291 : Below w86.heap.size w86 w284 := below_full B275 B275.size B286
        have B292 : Below w249.heap.size w249 w284 := below_full B276 B276.size B286
        have B293 : Below w262.heap.size w262 w284 := below_full B277 B277.size B286
        have B294 : Below w268.heap.size w268 w284 := B286
        have O285' := own_eq (l := [bof x281]) O285 (by simp [bof_val, byt])
        refine EL_append (v := ov) (xs := (tgn (val o253) i2.toNat).map byt) (ys := [bof x281].map byt) w262.heap.size elB rfl rfl rfl (by simpa using (own_below O278 B294)) (own_row O285') (byt_one _) (by first | (simp only [List.length_map, List.length_nil]; omega) | (simp; done) | (simp; omega)) (by decide) B293.size ?_
        intro v295 w296 O297 G298 A299
        have O297' := own_app O297
        have B300 : Below w.heap.size w w296 := below_grew B289 G298 (own_below O278 B294) B263.size (B289.size)
        have B301 : Below w79.heap.size w79 w296 := below_grew B290 G298 (own_below O278 B294) B264.size (B290.size)
        have B302 : Below w86.heap.size w86 w296 := below_grew B291 G298 (own_below O278 B294) B265.size (B291.size)
        have B303 : Below w249.heap.size w249 w296 := below_grew B292 G298 (own_below O278 B294) B266.size (B292.size)
        have B304 : Below w262.heap.size w262 w296 := below_grew B293 G298 (own_below O278 B294) (Nat.le_refl _) (B293.size)
        refine EL_val v295 w296 rfl (r_assign rfl) ?_
        refine EL_nil ?_
        refine inB_n ?_
        refine thn_n ?_
        refine EC_reg ?_
        refine EL_val (.int .i64 i2) w296 rfl (r_move (by exact e269)) ?_
        refine EL_int (i2 + 1) rfl (r_addi rfl rfl (by omega)) ?_
        intro x307 hx307
        refine EL_val (.int .i64 x307) w296 rfl (r_assign rfl) ?_
        refine EL_nil ?_
        refine thn_n ?_
        have es : (tgn (val o253) i2.toNat) ++ [bof x281] = tgn (val o253) (x307 : Int).toNat := by rw [show (x307 : Int).toNat = i2.toNat + 1 from by omega]; exact tgn_dig d254 hx282
        refine ⟨_, ?_, x307, v295, rfl, rfl, rfl, (by exact e271), (by exact e272), by omega, by rw [tgn_len]; omega, B300, B301, B302, B303, B304, own_as O297' es⟩
        first | omega | (simp; omega)
      · refine EC_skip ?_
        refine thn_n ?_
        refine EC_reg ?_
        refine EL_val ov w268 rfl (r_move (by exact e270)) ?_
        refine EL_val (.int .i64 0) w268 rfl (r_move rfl) ?_
        refine EL_val (.int .u8 0) w268 rfl (r_asn (by kernel_rfl) (r_conv 3 5 rfl Try.underlying3 Try.underlying5)) ?_
        refine EL_lit w268.heap.size #[.int .u8 0] elB rfl (by decide) rfl (Nat.le_refl _) (by kernel_rfl) ?_
        intro v308 w309 O310 B311 k312 z313
        have B314 : Below w.heap.size w w309 := below_full B273 B273.size B311
        have B315 : Below w79.heap.size w79 w309 := below_full B274 B274.size B311
        have B316 : Below w86.heap.size w86 w309 := below_full B275 B275.size B311
        have B317 : Below w249.heap.size w249 w309 := below_full B276 B276.size B311
        have B318 : Below w262.heap.size w262 w309 := below_full B277 B277.size B311
        have B319 : Below w268.heap.size w268 w309 := B311
        have O310' := own_eq (l := [(0 : UInt8)]) O310 (by simp [bof_val, byt])
        refine EL_append (v := ov) (xs := (tgn (val o253) i2.toNat).map byt) (ys := [(0 : UInt8)].map byt) w262.heap.size elB rfl rfl rfl (by simpa using (own_below O278 B319)) (own_row O310') (byt_one _) (by first | (simp only [List.length_map, List.length_nil]; omega) | (simp; done) | (simp; omega)) (by decide) B318.size ?_
        intro v320 w321 O322 G323 A324
        have O322' := own_app O322
        have B325 : Below w.heap.size w w321 := below_grew B314 G323 (own_below O278 B319) B263.size (B314.size)
        have B326 : Below w79.heap.size w79 w321 := below_grew B315 G323 (own_below O278 B319) B264.size (B315.size)
        have B327 : Below w86.heap.size w86 w321 := below_grew B316 G323 (own_below O278 B319) B265.size (B316.size)
        have B328 : Below w249.heap.size w249 w321 := below_grew B317 G323 (own_below O278 B319) B266.size (B317.size)
        have B329 : Below w262.heap.size w262 w321 := below_grew B318 G323 (own_below O278 B319) (Nat.le_refl _) (B318.size)
        refine EL_val v320 w321 rfl (r_assign rfl) ?_
        refine EL_nil ?_
        refine inB_n ?_
        refine thn_n ?_
        refine EC_reg ?_
        refine EL_val (.int .i64 i2) w321 rfl (r_move (by exact e269)) ?_
        refine EL_int (i2 + 1) rfl (r_addi rfl rfl (by omega)) ?_
        intro x332 hx332
        refine EL_val (.int .i64 x332) w321 rfl (r_assign rfl) ?_
        refine EL_nil ?_
        refine thn_n ?_
        have es : (tgn (val o253) i2.toNat) ++ [(0 : UInt8)] = tgn (val o253) (x332 : Int).toNat := by rw [show (x332 : Int).toNat = i2.toNat + 1 from by omega]; exact tgn_nodig d254 (by omega)
        refine ⟨_, ?_, x332, v320, rfl, rfl, rfl, (by exact e271), (by exact e272), by omega, by rw [tgn_len]; omega, B325, B326, B327, B328, B329, own_as O322' es⟩
        first | omega | (simp; omega)
    · refine EC_exit ?_
      refine thn_x ?_
      refine thn_x ?_
      refine inB_hit ?_
      refine thn_n ?_
      refine EC_seq ?_
      refine EC_reg ?_
      refine EL_val ov w268 rfl (r_move (by exact e270)) ?_
      refine EL_val ov w268 rfl (r_assign rfl) ?_
      refine EL_nil ?_
      refine thn_n ?_
      refine EC_ret ?_
      refine fin1 Try.results33 (show _ = ov from rfl) ⟨_, rfl, ?_⟩
      exact ⟨own_as (own_mono O278 B263.size) (by rw [show i2.toNat = 16 from by omega, ef]; rfl), B273⟩

end Go.Proofs.Ytlhaojpkejpgfaa
