import Derived.Test.YtlfjgikkaffmaaaSpec
import Derived.Test.YtlfjgikkaffmaaaProg
set_option linter.unusedVariables false
set_option linter.unusedSimpArgs false
namespace Go.Proofs.Ytlfjgikkaffmaaa
open Go.RowKit Go.Ecal
theorem elB : Elem Try.prog 28 5 (.int .u8 0) 1 := ⟨Try.underlying28, by kernel_rfl, rfl⟩
theorem nm10 : (Try.f10.name == "runtime.NumGoroutine") = false := by kernel_rfl
theorem nm11 : (Try.f11.name == "runtime.NumGoroutine") = false := by kernel_rfl
theorem nm12 : (Try.f12.name == "runtime.NumGoroutine") = false := by kernel_rfl
theorem nm13 : (Try.f13.name == "runtime.NumGoroutine") = false := by kernel_rfl
theorem nm14 : (Try.f14.name == "runtime.NumGoroutine") = false := by kernel_rfl
theorem nm15 : (Try.f15.name == "runtime.NumGoroutine") = false := by kernel_rfl
theorem nm9 : (Try.f9.name == "runtime.NumGoroutine") = false := by kernel_rfl
theorem size_c (n : Int) (w : World) (h : -9223372036854775808 ≤ n ∧ n ≤ 9223372036854775807) : Ret Try.prog 10 [.int .i64 n] w fun v w' => v = .tuple #[.int .i64 (bsize n), .int .i64 (bsizeE n)] ∧ w = w' := by
  refine ret_E Try.func10 rfl Try.ntmps10 (by simp) ?_
  refine EC_seq ?_
  refine EC_reg ?_
  refine EL_val (.int .i64 0) w rfl (r_assign rfl) ?_
  refine EL_val (.int .i64 0) w rfl (r_assign rfl) ?_
  refine EL_nil ?_
  refine thn_n ?_
  refine EC_scope (fun l' m' E' w' => (l' = 0 ∧ m' = 0 ∧ E' 0 = .int .i64 n ∧ (n < 0 ∨ 2046 < n) ∧ w = w') ∨ (l' = 1 ∧ ∃ z : Int, m' = (4096 - z).toNat ∧ E' 4 = .int .i64 z ∧ E' 0 = .int .i64 n ∧ (0 ≤ n ∧ n ≤ 2046) ∧ (z = 64 ∨ z = 128 ∧ 62 < n ∨ z = 256 ∧ 126 < n ∨ z = 512 ∧ 254 < n ∨ z = 1024 ∧ 510 < n ∨ z = 2048 ∧ 1022 < n) ∧ w = w')) 5000 ?_ ?_
  · refine EC_seq ?_
    refine EC_reg ?_
    refine EL_val (.int .i64 64) w rfl (r_assign rfl) ?_
    refine EL_nil ?_
    refine thn_n ?_
    refine EC_seq ?_
    refine EC_seq ?_
    refine EC_reg ?_
    refine EL_val (.int .i64 n) w rfl (r_move rfl) ?_
    refine EL_val (.bool (decide (n < 0))) w rfl (r_lss rfl rfl) ?_
    refine EL_val (.bool (decide (n < 0))) w rfl (r_move rfl) ?_
    refine EL_gite 7 rfl rfl rfl (.int .i64 n) rfl (fun g1 => r_move rfl) ?_
    refine EL_gite 7 rfl rfl rfl (.bool (decide (2046 < n))) rfl (fun g2 => r_gtr (cond_of g2 rfl) rfl) ?_
    refine EL_val (.bool ((decide (n < 0)) || (decide (2046 < n)))) w rfl (r_or rfl rfl rfl) ?_
    refine EL_nil ?_
    refine thn_n ?_
    refine EC_cond (t := (decide (n < 0)) || (decide (2046 < n))) rfl (fun h3 => ?_) (fun h3 => ?_)
    · refine EC_goto ?_
      refine thn_g ?_
      refine jmp_g _ ?_ (.inl ⟨rfl, rfl, rfl, by simp at *; omega, rfl⟩)
      first | omega | (simp; omega)
    · simp at h3
      refine EC_skip ?_
      refine thn_n ?_
      refine EC_seq ?_
      refine EC_label ?_
      refine thn_n ?_
      refine EC_seq ?_
      refine EC_seq ?_
      refine EC_reg ?_
      refine EL_val (.int .i64 n) w rfl (r_move rfl) ?_
      refine EL_int (n + 2) rfl (r_addi rfl rfl (by omega)) ?_
      intro x4 hx4
      refine EL_val (.int .i64 64) w rfl (r_move rfl) ?_
      refine EL_val (.bool (decide (x4 ≤ 64))) w rfl (r_leq rfl rfl) ?_
      refine EL_nil ?_
      refine thn_n ?_
      refine EC_if (p := x4 ≤ 64) rfl (fun h5 => ?_) (fun h5 => ?_)
      · refine EC_seq ?_
        refine EC_reg ?_
        refine EL_val (.int .i64 64) w rfl (r_move rfl) ?_
        refine EL_val (.int .i64 64) w rfl (r_assign rfl) ?_
        refine EL_val (.int .i64 0) w rfl (r_assign rfl) ?_
        refine EL_nil ?_
        refine thn_n ?_
        refine EC_ret ?_
        refine thn_r ?_
        refine jmp_r ?_
        refine fin2 Try.results10 (show _ = .int .i64 64 from rfl) (show _ = .int .i64 0 from rfl) ⟨_, rfl, ?_⟩
        exact ⟨by simp only [bsize, bsizeE]; simp; omega, rfl⟩
      · refine EC_skip ?_
        refine thn_n ?_
        refine EC_seq ?_
        refine EC_reg ?_
        refine EL_val (.int .i64 64) w rfl (r_move rfl) ?_
        refine EL_int (64 * 2) rfl (r_muli rfl rfl (by omega)) ?_
        intro x6 hx6
        refine EL_val (.int .i64 x6) w rfl (r_assign rfl) ?_
        refine EL_nil ?_
        refine thn_n ?_
        refine EC_seq ?_
        refine EC_goto ?_
        refine thn_g ?_
        refine jmp_g _ ?_ (.inr ⟨rfl, x6, rfl, rfl, rfl, by omega, by omega, rfl⟩)
        first | omega | (simp; omega)
  · rintro _ _ E10 w11 (⟨rfl, rfl, e7, hn, rfl⟩ | ⟨rfl, z, rfl, e8, e9, hn, hz, rfl⟩)
    · refine ⟨_, rfl, ?_⟩
      refine EC_seq ?_
      refine EC_skip ?_
      refine thn_n ?_
      refine EC_seq ?_
      refine EC_reg ?_
      refine EL_val (.int .i64 0) w rfl (r_assign rfl) ?_
      refine EL_val (.int .i64 11) w rfl (r_assign rfl) ?_
      refine EL_nil ?_
      refine thn_n ?_
      refine EC_ret ?_
      refine jmp_r ?_
      refine fin2 Try.results10 (show _ = .int .i64 0 from rfl) (show _ = .int .i64 11 from rfl) ⟨_, rfl, ?_⟩
      exact ⟨by simp only [bsize, bsizeE]; simp; omega, rfl⟩
    · refine ⟨_, rfl, ?_⟩
      refine EC_seq ?_
      refine EC_skip ?_
      refine thn_n ?_
      refine EC_seq ?_
      refine EC_seq ?_
      refine EC_reg ?_
      refine EL_val (.int .i64 n) w rfl (r_move (by exact e9)) ?_
      refine EL_int (n + 2) rfl (r_addi rfl rfl (by omega)) ?_
      intro x12 hx12
      refine EL_val (.int .i64 z) w rfl (r_move (by exact e8)) ?_
      refine EL_val (.bool (decide (x12 ≤ z))) w rfl (r_leq rfl rfl) ?_
      refine EL_nil ?_
      refine thn_n ?_
      refine EC_if (p := x12 ≤ z) rfl (fun h13 => ?_) (fun h13 => ?_)
      · refine EC_seq ?_
        refine EC_reg ?_
        refine EL_val (.int .i64 z) w rfl (r_move (by exact e8)) ?_
        refine EL_val (.int .i64 z) w rfl (r_assign rfl) ?_
        refine EL_val (.int .i64 0) w rfl (r_assign rfl) ?_
        refine EL_nil ?_
        refine thn_n ?_
        refine EC_ret ?_
        refine thn_r ?_
        refine jmp_r ?_
        refine fin2 Try.results10 (show _ = .int .i64 z from rfl) (show _ = .int .i64 0 from rfl) ⟨_, rfl, ?_⟩
        exact ⟨by simp only [bsize, bsizeE]; simp; omega, rfl⟩
      · refine EC_skip ?_
        refine thn_n ?_
        refine EC_seq ?_
        refine EC_reg ?_
        refine EL_val (.int .i64 z) w rfl (r_move (by exact e8)) ?_
        refine EL_int (z * 2) rfl (r_muli rfl rfl (by omega)) ?_
        intro x14 hx14
        refine EL_val (.int .i64 x14) w rfl (r_assign rfl) ?_
        refine EL_nil ?_
        refine thn_n ?_
        refine EC_seq ?_
        refine EC_goto ?_
        refine thn_g ?_
        refine jmp_g _ ?_ (.inr ⟨rfl, x14, rfl, rfl, (by exact e9), by omega, by omega, rfl⟩)
        first | omega | (simp; omega)

theorem size_at (n z e : Int) (w : World) (h : -9223372036854775808 ≤ n ∧ n ≤ 9223372036854775807) (hz : bsize n = z) (he : bsizeE n = e) : Ret Try.prog 10 [.int .i64 n] w fun v w' => v = .tuple #[.int .i64 z, .int .i64 e] ∧ w = w' := by
  subst hz he; exact size_c n w h

theorem sel6 (i x : Int) (h : 0 ≤ i ∧ i < 6) (hx : [(64 : Int), 128, 256, 512, 1024, 2048][i.toNat]? = some x) : (i = 0 ∧ x = 64) ∨ (i = 1 ∧ x = 128) ∨ (i = 2 ∧ x = 256) ∨ (i = 3 ∧ x = 512) ∨ (i = 4 ∧ x = 1024) ∨ (i = 5 ∧ x = 2048) := by
  obtain ⟨j, rfl⟩ := Int.eq_ofNat_of_zero_le h.1
  have : j < 6 := by omega
  rcases j with _ | _ | _ | _ | _ | _ | j <;> simp at hx <;> omega

theorem rsize_c (n : Int) (w : World) (h : -9223372036854775808 ≤ n ∧ n ≤ 9223372036854775807) : Ret Try.prog 11 [.int .i64 n] w fun v w' => v = .int .i64 (bsize n) ∧ Below w.heap.size w w' := by
  refine ret_E Try.func11 rfl Try.ntmps11 (by simp) ?_
  refine EC_seq ?_
  refine EC_reg ?_
  refine EL_val (.int .i64 0) w rfl (r_assign rfl) ?_
  refine EL_nil ?_
  refine thn_n ?_
  refine EC_seq ?_
  refine EC_reg ?_
  refine EL_val (.agg #[.int .i64 64, .int .i64 128, .int .i64 256, .int .i64 512, .int .i64 1024, .int .i64 2048]) w rfl (r_buildA (z := .agg #[.int .i64 0, .int .i64 0, .int .i64 0, .int .i64 0, .int .i64 0, .int .i64 0]) _ Try.underlying37 (by kernel_rfl) (by kernel_rfl) (by kernel_rfl)) ?_
  refine EL_alloc (z := .agg #[.int .i64 0, .int .i64 0, .int .i64 0, .int .i64 0, .int .i64 0, .int .i64 0]) (List.replicate 6 (.int .i64 0)) rfl (by kernel_rfl) rfl ?_
  intro b1 w2 k3 A4 B5 z6
  have B7 : Below w.heap.size w w2 := B5
  have A4' : Arr w2 b1 37 ((List.replicate 6 0).map (Value.int .i64)) := A4
  refine EL_storeAll (v := .agg #[.int .i64 64, .int .i64 128, .int .i64 256, .int .i64 512, .int .i64 1024, .int .i64 2048]) (cs' := (([64, 128, 256, 512, 1024, 2048] : List Int).map (Value.int .i64)).toArray) rfl rfl rfl A4' (by first | rfl | simp) (by first | kernel_rfl | simp) (ints_oneCell _ _) ?_
  intro w8 A9 K10 z11
  have A9' : Arr w8 b1 37 (([64, 128, 256, 512, 1024, 2048] : List Int).map (Value.int .i64)) := A9
  have B12 : Below w.heap.size w w8 := below_kept B7 K10 (by omega) (B7.size)
  refine EL_nil ?_
  refine thn_n ?_
  refine EC_seq ?_
  refine EC_seq ?_
  refine EC_reg ?_
  refine EL_val (.int .i64 0) w8 rfl (r_assign rfl) ?_
  refine EL_nil ?_
  refine thn_n ?_
  refine EC_block ?_
  refine EC_loop (fun m' E' w' => ∃ i : Int, m' = (6 - i).toNat ∧ E' 4 = .int .i64 i ∧ E' 0 = .int .i64 n ∧ E' 3 = ptr b1 ∧ (0 ≤ i ∧ i ≤ 6) ∧ (n < 0 ∨ ((i ≤ 0 ∨ 62 < n) ∧ (i ≤ 1 ∨ 126 < n) ∧ (i ≤ 2 ∨ 254 < n) ∧ (i ≤ 3 ∨ 510 < n) ∧ (i ≤ 4 ∨ 1022 < n) ∧ (i ≤ 5 ∨ 2046 < n))) ∧ w8 = w') _ ⟨0, rfl, rfl, rfl, rfl, by omega, by omega, rfl⟩ ?_
  rintro _ E13 w14 ⟨i, rfl, e15, e16, e17, hi, hn, rfl⟩
  refine EC_seq ?_
  refine EC_seq ?_
  refine EC_reg ?_
  refine EL_val (.int .i64 i) w8 rfl (r_move (by exact e15)) ?_
  refine EL_val (.bool (decide (i < 6))) w8 rfl (r_lss rfl rfl) ?_
  refine EL_nil ?_
  refine thn_n ?_
  refine EC_if (p := i < 6) rfl (fun h18 => ?_) (fun h18 => ?_)
  · refine EC_skip ?_
    refine thn_n ?_
    refine EC_seq ?_
    refine EC_block ?_
    refine EC_seq ?_
    refine EC_reg ?_
    refine EL_val (.int .i64 n) w8 rfl (r_move (by exact e16)) ?_
    refine EL_val (.bool (decide (0 ≤ n))) w8 rfl (r_geq rfl rfl) ?_
    refine EL_val (.bool (decide (0 ≤ n))) w8 rfl (r_move rfl) ?_
    refine EL_gite 12 rfl rfl rfl (.int .i64 n) rfl (fun g19 => r_move (by exact e16)) ?_
    refine EL_gite 12 rfl rfl rfl (.int .i64 i) rfl (fun g20 => r_move (by exact e15)) ?_
    refine EL_gite 12 rfl rfl rfl (ptr b1 ((i : Int).toNat)) rfl (fun g21 => r_indexA (by exact e17) (cond_of g21 rfl) (by omega) (by omega) Try.underlying37 (by kernel_rfl)) ?_
    obtain ⟨x23, hx24⟩ := get_some (l := ([64, 128, 256, 512, 1024, 2048] : List Int)) (j := (i : Int).toNat) (by first | omega | (simp; omega) | simp)
    have qx23 : (i = 0 ∧ x23 = 64) ∨ (i = 1 ∧ x23 = 128) ∨ (i = 2 ∧ x23 = 256) ∨ (i = 3 ∧ x23 = 512) ∨ (i = 4 ∧ x23 = 1024) ∨ (i = 5 ∧ x23 = 2048) := sel6 i _ (by omega) hx24
    refine EL_gite 12 rfl rfl rfl (.int .i64 x23) rfl (fun g22 => r_loadA (cond_of g22 rfl) A9' (int_get hx24) Try.underlying3 rfl) ?_
    refine EL_gite 12 rfl rfl rfl (.int .i64 (x23 - 2)) rfl (fun g25 => r_subi (cond_of g25 rfl) rfl (by omega)) ?_
    refine EL_gite 12 rfl rfl rfl (.bool (decide (n ≤ (x23 - 2)))) rfl (fun g26 => r_leq (cond_of g26 rfl) (cond_of g26 rfl)) ?_
    refine EL_val (.bool ((decide (0 ≤ n)) && (decide (n ≤ (x23 - 2))))) w8 rfl (r_and rfl rfl rfl) ?_
    refine EL_nil ?_
    refine thn_n ?_
    refine EC_cond (t := (decide (0 ≤ n)) && (decide (n ≤ (x23 - 2)))) rfl (fun h27 => ?_) (fun h27 => ?_)
    · refine EC_seq ?_
      refine EC_reg ?_
      refine EL_val (.int .i64 i) w8 rfl (r_move (by exact e15)) ?_
      refine EL_val (ptr b1 ((i : Int).toNat)) w8 rfl (r_indexA (by exact e17) rfl (by omega) (by omega) Try.underlying37 (by kernel_rfl)) ?_
      obtain ⟨x28, hx29⟩ := get_some (l := ([64, 128, 256, 512, 1024, 2048] : List Int)) (j := (i : Int).toNat) (by first | omega | (simp; omega) | simp)
      have qx28 : (i = 0 ∧ x28 = 64) ∨ (i = 1 ∧ x28 = 128) ∨ (i = 2 ∧ x28 = 256) ∨ (i = 3 ∧ x28 = 512) ∨ (i = 4 ∧ x28 = 1024) ∨ (i = 5 ∧ x28 = 2048) := sel6 i _ (by omega) hx29
      refine EL_val (.int .i64 x28) w8 rfl (r_loadA rfl A9' (int_get hx29) Try.underlying3 rfl) ?_
      refine EL_val (.int .i64 x28) w8 rfl (r_assign rfl) ?_
      refine EL_nil ?_
      refine thn_n ?_
      refine EC_ret ?_
      refine inB_r ?_
      refine thn_r ?_
      refine thn_r ?_
      refine inB_r ?_
      refine thn_r ?_
      refine fin1 Try.results11 (show _ = .int .i64 x28 from rfl) ⟨_, rfl, ?_⟩
      exact ⟨by simp only [bsize]; simp at *; omega, B12⟩
    · refine EC_skip ?_
      refine inB_n ?_
      refine thn_n ?_
      refine EC_reg ?_
      refine EL_val (.int .i64 i) w8 rfl (r_move (by exact e15)) ?_
      refine EL_int (i + 1) rfl (r_addi rfl rfl (by omega)) ?_
      intro x30 hx30
      refine EL_val (.int .i64 x30) w8 rfl (r_assign rfl) ?_
      refine EL_nil ?_
      refine thn_n ?_
      refine ⟨_, ?_, x30, rfl, rfl, (by exact e16), (by exact e17), by omega, by simp at *; omega, rfl⟩
      first | omega | (simp; omega)
  · refine EC_exit ?_
    refine thn_x ?_
    refine thn_x ?_
    refine inB_hit ?_
    refine thn_n ?_
    refine EC_seq ?_
    refine EC_reg ?_
    refine EL_val (.int .i64 0) w8 rfl (r_assign rfl) ?_
    refine EL_nil ?_
    refine thn_n ?_
    refine EC_ret ?_
    refine fin1 Try.results11 (show _ = .int .i64 0 from rfl) ⟨_, rfl, ?_⟩
    exact ⟨by simp only [bsize]; simp at *; omega, B12⟩

theorem pad_ok (v0 : Value) (b : List UInt8) (w : World) (H0 : Bs w v0 b) (hb : b.length ≤ 2046) : Ret Try.prog 12 [v0] w fun v w' => ∃ p, v = .tuple #[p, .int .i64 0] ∧ w'.ownsRow w.heap.size 5 1 p (bpad b).length ((bpad b).map byt) ∧ Below w.heap.size w w' := by
  obtain ⟨z, hz, hz0, hz1, hz2, hz3, hz4⟩ := bsize_facts b.length (by omega) (by omega)
  refine ret_E Try.func12 rfl Try.ntmps12 (by simp) ?_
  refine EC_seq ?_
  refine EC_reg ?_
  refine EL_val (.slice none 0 0) w rfl (r_assign rfl) ?_
  refine EL_val (.int .i64 0) w rfl (r_assign rfl) ?_
  refine EL_nil ?_
  refine thn_n ?_
  refine EC_seq ?_
  refine EC_reg ?_
  refine EL_val v0 w rfl (r_move rfl) ?_
  refine EL_val (.int .i64 (b.length : Int)) w rfl (lenB (r_len rfl H0 Try.underlying28)) ?_
  refine EL_ret [.int .i64 (b.length : Int)] rfl Try.func10 rfl nm10 rfl (size_at (b.length : Int) z 0 w (by omega) hz hz0) ?_
  rintro _ _ ⟨rfl, rfl⟩
  refine EL_val (.tuple #[.int .i64 z, .int .i64 0]) w rfl (r_move rfl) ?_
  refine EL_val (.int .i64 z) w rfl (r_extract rfl rfl) ?_
  refine EL_val (.int .i64 0) w rfl (r_extract rfl rfl) ?_
  refine EL_val (.int .i64 z) w rfl (r_assign rfl) ?_
  refine EL_val (.int .i64 0) w rfl (r_assign rfl) ?_
  refine EL_nil ?_
  refine thn_n ?_
  refine EC_seq ?_
  refine EC_seq ?_
  refine EC_reg ?_
  refine EL_val (.int .i64 0) w rfl (r_move rfl) ?_
  refine EL_val (.bool false) w rfl (r_dec (by decide) (r_neq rfl rfl)) ?_
  refine EL_nil ?_
  refine thn_n ?_
  refine EC_cond_false rfl ?_
  refine EC_skip ?_
  refine thn_n ?_
  refine EC_seq ?_
  refine EC_reg ?_
  refine EL_val (.int .i64 z) w rfl (r_move rfl) ?_
  refine EL_make w.heap.size elB rfl rfl rfl rfl (by omega) (by omega) (by omega) (by omega) (Nat.le_refl _) ?_
  intro v1 w2 O3 B4 k5 z6
  have B7 : Below w.heap.size w w2 := B4
  have O8 := own_rep O3
  refine EL_val v1 w2 rfl (r_assign rfl) ?_
  refine EL_nil ?_
  refine thn_n ?_
  refine EC_seq ?_
  refine EC_reg ?_
  refine EL_val v1 w2 rfl (r_move rfl) ?_
  refine EL_val v1 w2 rfl (r_move rfl) ?_
  refine EL_val v0 w2 rfl (r_move rfl) ?_
  refine EL_val (.int .i64 (b.length : Int)) w2 rfl (lenB (r_len rfl (H0.below B7) Try.underlying28)) ?_
  refine EL_int ((b.length : Int) / 256) rfl (r_shri (n := 8) rfl rfl rfl (by decide) (by decide)) ?_
  intro x9 hx9
  refine EL_val (.int .u8 (x9 % 256)) w2 rfl (r_convb 3 5 rfl Try.underlying3 Try.underlying5) ?_
  refine EL_val v0 w2 rfl (r_move rfl) ?_
  refine EL_val (.int .i64 (b.length : Int)) w2 rfl (lenB (r_len rfl (H0.below B7) Try.underlying28)) ?_
  refine EL_val (.int .u8 ((b.length : Int) % 256)) w2 rfl (r_convb 3 5 rfl Try.underlying3 Try.underlying5) ?_
  refine EL_val (.pointer (some (at_ v1 ((0 : Int).toNat)))) w2 rfl (r_index rfl (own_row O8) rfl (by omega) (by first | omega | (simp; omega) | simp) Try.underlying28 (by kernel_rfl)) ?_
  refine EL_store (u := byt (bof x9)) rfl (Eq.trans (show _ = Value.int .u8 (x9 % 256) from rfl) (bof_val _)) O8 (by first | omega | (simp; omega)) rfl (by kernel_rfl) ?_
  intro w10 O11 G12 z13
  have O11' := own_set O11
  have B14 : Below w.heap.size w w10 := below_grew B7 G12 O8 (Nat.le_refl _) (B7.size)
  refine EL_val (.pointer (some (at_ v1 ((1 : Int).toNat)))) w10 rfl (r_index rfl (own_row O11') rfl (by omega) (by first | omega | (simp; omega) | simp) Try.underlying28 (by kernel_rfl)) ?_
  refine EL_store (u := byt (bof (b.length : Int))) rfl (Eq.trans (show _ = Value.int .u8 ((b.length : Int) % 256) from rfl) (bof_val _)) O11' (by first | omega | (simp; omega)) rfl (by kernel_rfl) ?_
  intro w15 O16 G17 z18
  have O16' := own_set O16
  have B19 : Below w.heap.size w w15 := below_grew B14 G17 O11' (Nat.le_refl _) (B14.size)
  refine EL_nil ?_
  refine thn_n ?_
  refine EC_seq ?_
  refine EC_reg ?_
  refine EL_val v1 w15 rfl (r_move rfl) ?_
  refine EL_val (cutV v1 2 ((((List.replicate (z : Int).toNat (0 : UInt8)).set ((0 : Int).toNat) (bof x9)).set ((1 : Int).toNat) (bof (b.length : Int))).length)) w15 rfl (r_slice rfl (own_row O16') Try.underlying28 (by kernel_rfl) 2 ((((List.replicate (z : Int).toNat (0 : UInt8)).set ((0 : Int).toNat) (bof x9)).set ((1 : Int).toNat) (bof (b.length : Int))).length) (by first | omega | (simp; omega) | simp) (by first | omega | (simp; omega) | simp) (.inr ⟨_, _, rfl, rfl⟩) (.inl ⟨rfl, by simp⟩)) ?_
  have R20 : Bs w15 (cutV v1 2 ((((List.replicate (z : Int).toNat (0 : UInt8)).set ((0 : Int).toNat) (bof x9)).set ((1 : Int).toNat) (bof (b.length : Int))).length)) ((((List.replicate (z : Int).toNat (0 : UInt8)).set ((0 : Int).toNat) (bof x9)).set ((1 : Int).toNat) (bof (b.length : Int))).drop 2) := Bs.from (own_row O16') 2 (by first | omega | (simp; omega) | simp)
  have L21 : ((((List.replicate (z : Int).toNat (0 : UInt8)).set ((0 : Int).toNat) (bof x9)).set ((1 : Int).toNat) (bof (b.length : Int))).drop 2).length = ((((List.replicate (z : Int).toNat (0 : UInt8)).set ((0 : Int).toNat) (bof x9)).set ((1 : Int).toNat) (bof (b.length : Int))).length) - 2 := by first | (simp; done) | (simp; omega)
  refine EL_val v0 w15 rfl (r_move rfl) ?_
  refine EL_copy (ys := b.map byt) rfl (show _ = (cutV v1 2 ((((List.replicate (z : Int).toNat (0 : UInt8)).set ((0 : Int).toNat) (bof x9)).set ((1 : Int).toNat) (bof (b.length : Int))).length)) from rfl) rfl O16' (H0.below B19) (by simp; omega) (by first | (simp; done) | (simp; omega)) (by simp; omega) Try.underlying28 (by kernel_rfl) (byt_one _) ?_
  intro w22 O23 G24 z25
  have O23' := own_cpy O23
  have B26 : Below w.heap.size w w22 := below_grew B19 G24 O16' (Nat.le_refl _) (B19.size)
  refine EL_nil ?_
  refine thn_n ?_
  refine EC_seq ?_
  refine EC_reg ?_
  refine EL_val v1 w22 rfl (r_move rfl) ?_
  refine EL_val v1 w22 rfl (r_assign rfl) ?_
  refine EL_val (.int .i64 0) w22 rfl (r_assign rfl) ?_
  refine EL_nil ?_
  refine thn_n ?_
  refine EC_ret ?_
  refine fin2 Try.results12 (show _ = v1 from rfl) (show _ = .int .i64 0 from rfl) ⟨_, rfl, ?_⟩
  have Oz : w22.ownsRow w.heap.size 5 1 v1 (bpad b).length ((bpad b).map byt) := by exact own_as O23' (bpad_list b z hz _ _ (by rw [hx9]) rfl hz2)
  exact ⟨_, rfl, Oz, B26⟩

theorem pad_no (v0 : Value) (b : List UInt8) (w : World) (H0 : Bs w v0 b) (hb : 2046 < b.length) : Ret Try.prog 12 [v0] w fun v w' => v = .tuple #[.slice none 0 0, .int .i64 11] ∧ w = w' := by
  have hl := H0.len_le
  simp only [List.length_map] at hl
  obtain ⟨hz, hz0⟩ := bsize_no b.length (by omega)
  refine ret_E Try.func12 rfl Try.ntmps12 (by simp) ?_
  refine EC_seq ?_
  refine EC_reg ?_
  refine EL_val (.slice none 0 0) w rfl (r_assign rfl) ?_
  refine EL_val (.int .i64 0) w rfl (r_assign rfl) ?_
  refine EL_nil ?_
  refine thn_n ?_
  refine EC_seq ?_
  refine EC_reg ?_
  refine EL_val v0 w rfl (r_move rfl) ?_
  refine EL_val (.int .i64 (b.length : Int)) w rfl (lenB (r_len rfl H0 Try.underlying28)) ?_
  refine EL_ret [.int .i64 (b.length : Int)] rfl Try.func10 rfl nm10 rfl (size_at (b.length : Int) 0 11 w (by omega) hz hz0) ?_
  rintro _ _ ⟨rfl, rfl⟩
  refine EL_val (.tuple #[.int .i64 0, .int .i64 11]) w rfl (r_move rfl) ?_
  refine EL_val (.int .i64 0) w rfl (r_extract rfl rfl) ?_
  refine EL_val (.int .i64 11) w rfl (r_extract rfl rfl) ?_
  refine EL_val (.int .i64 0) w rfl (r_assign rfl) ?_
  refine EL_val (.int .i64 11) w rfl (r_assign rfl) ?_
  refine EL_nil ?_
  refine thn_n ?_
  refine EC_seq ?_
  refine EC_seq ?_
  refine EC_reg ?_
  refine EL_val (.int .i64 11) w rfl (r_move rfl) ?_
  refine EL_val (.bool true) w rfl (r_dec (by decide) (r_neq rfl rfl)) ?_
  refine EL_nil ?_
  refine thn_n ?_
  refine EC_cond_true rfl ?_
  refine EC_seq ?_
  refine EC_reg ?_
  refine EL_val (.int .i64 11) w rfl (r_move rfl) ?_
  refine EL_val (.slice none 0 0) w rfl (r_assign rfl) ?_
  refine EL_val (.int .i64 11) w rfl (r_assign rfl) ?_
  refine EL_nil ?_
  refine thn_n ?_
  refine EC_ret ?_
  refine thn_r ?_
  refine fin2 Try.results12 (show _ = .slice none 0 0 from rfl) (show _ = .int .i64 11 from rfl) ⟨_, rfl, ?_⟩
  exact ⟨rfl, rfl⟩

theorem strip_c (v0 : Value) (b : List UInt8) (w : World) (H0 : Bs w v0 b) : Ret Try.prog 13 [v0] w fun v w' => StripPost b w w' v := by
  have hl := H0.len_le
  simp only [List.length_map] at hl
  refine ret_E Try.func13 rfl Try.ntmps13 (by simp) ?_
  refine EC_seq ?_
  refine EC_reg ?_
  refine EL_val (.slice none 0 0) w rfl (r_assign rfl) ?_
  refine EL_val (.int .i64 0) w rfl (r_assign rfl) ?_
  refine EL_nil ?_
  refine thn_n ?_
  refine EC_seq ?_
  refine EC_seq ?_
  refine EC_reg ?_
  refine EL_val v0 w rfl (r_move rfl) ?_
  refine EL_val (.int .i64 (b.length : Int)) w rfl (lenB (r_len rfl H0 Try.underlying28)) ?_
  refine EL_val (.bool (decide ((b.length : Int) < 64))) w rfl (r_lss rfl rfl) ?_
  refine EL_nil ?_
  refine thn_n ?_
  refine EC_if (p := (b.length : Int) < 64) rfl (fun h1 => ?_) (fun h1 => ?_)
  · refine EC_seq ?_
    refine EC_reg ?_
    refine EL_val (.slice none 0 0) w rfl (r_assign rfl) ?_
    refine EL_val (.int .i64 10) w rfl (r_assign rfl) ?_
    refine EL_nil ?_
    refine thn_n ?_
    refine EC_ret ?_
    refine thn_r ?_
    refine fin2 Try.results13 (show _ = .slice none 0 0 from rfl) (show _ = .int .i64 10 from rfl) ⟨_, rfl, ?_⟩
    exact ⟨.inl ⟨strip_short h1, rfl⟩, (Below.refl _ _)⟩
  · have hlen : ¬ (b.length : Int) < 64 := h1
    refine EC_skip ?_
    refine thn_n ?_
    refine EC_seq ?_
    refine EC_quietB (by kernel_rfl) (by kernel_rfl) ?_
    refine EQ_val v0 rfl (fun _ hw => r_move rfl) ?_
    refine EQ_val (.pointer (some (at_ v0 ((0 : Int).toNat)))) rfl (fun _ hw => r_index rfl (H0.below hw) rfl (by omega) (by first | omega | (simp; omega) | simp) Try.underlying28 (by kernel_rfl)) ?_
    obtain ⟨b2, hb3⟩ := get_some (l := b) (j := (0 : Int).toNat) (by omega)
    have hb4 := b2.toNat_lt
    refine EQ_val (.int .u8 (b2.toNat : Int)) rfl (fun _ hw => r_load rfl ((H0.below hw).cell (bs_get hb3)) Try.underlying5 rfl) ?_
    refine EQ_val (.int .i64 (b2.toNat : Int)) rfl (fun _ hw => r_convi 5 3 rfl Try.underlying5 Try.underlying3 (by omega)) ?_
    refine EQ_int ((b2.toNat : Int) * 256) rfl (fun _ hw => r_shli (n := 8) rfl rfl rfl (by decide) (by decide) (by omega)) ?_
    intro x5 hx5
    refine EQ_val v0 rfl (fun _ hw => r_move rfl) ?_
    refine EQ_val (.pointer (some (at_ v0 ((1 : Int).toNat)))) rfl (fun _ hw => r_index rfl (H0.below hw) rfl (by omega) (by first | omega | (simp; omega) | simp) Try.underlying28 (by kernel_rfl)) ?_
    obtain ⟨b6, hb7⟩ := get_some (l := b) (j := (1 : Int).toNat) (by omega)
    have hb8 := b6.toNat_lt
    refine EQ_val (.int .u8 (b6.toNat : Int)) rfl (fun _ hw => r_load rfl ((H0.below hw).cell (bs_get hb7)) Try.underlying5 rfl) ?_
    refine EQ_val (.int .i64 (b6.toNat : Int)) rfl (fun _ hw => r_convi 5 3 rfl Try.underlying5 Try.underlying3 (by omega)) ?_
    refine EQ_int (x5 + (b6.toNat : Int)) rfl (fun _ hw => r_ori b2.toNat b6.toNat 8 rfl rfl (by omega) (by omega) (by omega) rfl (by omega)) ?_
    intro x9 hx9
    refine EQ_val (.int .i64 x9) rfl (fun _ hw => r_assign rfl) ?_
    have hn : x9 = bnum b := by rw [bnum_eq hb3 hb7]; omega
    have hn0 : 0 ≤ x9 := by omega
    refine EQ_nil ?_
    intro w10 B11
    have B12 : Below w.heap.size w w10 := B11
    refine thn_n ?_
    refine EC_seq ?_
    refine EC_seq ?_
    refine EC_reg ?_
    refine EL_val (.int .i64 x9) w10 rfl (r_move rfl) ?_
    refine EL_ret [.int .i64 x9] rfl Try.func10 rfl nm10 rfl (size_c x9 w10 (by omega)) ?_
    rintro _ _ ⟨rfl, rfl⟩
    refine EL_val (.tuple #[.int .i64 (bsize x9), .int .i64 (bsizeE x9)]) w10 rfl (r_move rfl) ?_
    refine EL_val (.int .i64 (bsize x9)) w10 rfl (r_extract rfl rfl) ?_
    refine EL_val (.int .i64 (bsizeE x9)) w10 rfl (r_extract rfl rfl) ?_
    refine EL_val (.int .i64 (bsize x9)) w10 rfl (r_assign rfl) ?_
    refine EL_val (.int .i64 (bsizeE x9)) w10 rfl (r_assign rfl) ?_
    refine EL_nil ?_
    refine thn_n ?_
    refine EC_seq ?_
    refine EC_reg ?_
    refine EL_val (.int .i64 (bsizeE x9)) w10 rfl (r_move rfl) ?_
    refine EL_val (.bool (decide ((bsizeE x9) ≠ 0))) w10 rfl (r_neq rfl rfl) ?_
    refine EL_val (.bool (decide ((bsizeE x9) ≠ 0))) w10 rfl (r_move rfl) ?_
    refine EL_gite 29 rfl rfl rfl (.int .i64 (bsize x9)) rfl (fun g13 => r_move rfl) ?_
    refine EL_gite 29 rfl rfl rfl v0 rfl (fun g14 => r_move rfl) ?_
    refine EL_gite 29 rfl rfl rfl (.int .i64 (b.length : Int)) rfl (fun g15 => lenB (r_len (cond_of g15 rfl) (H0.below B12) Try.underlying28)) ?_
    refine EL_gite 29 rfl rfl rfl (.bool (decide ((bsize x9) ≠ (b.length : Int)))) rfl (fun g16 => r_neq (cond_of g16 rfl) (cond_of g16 rfl)) ?_
    refine EL_val (.bool ((decide ((bsizeE x9) ≠ 0)) || (decide ((bsize x9) ≠ (b.length : Int))))) w10 rfl (r_or rfl rfl rfl) ?_
    refine EL_nil ?_
    refine thn_n ?_
    refine EC_cond (t := (decide ((bsizeE x9) ≠ 0)) || (decide ((bsize x9) ≠ (b.length : Int)))) rfl (fun h17 => ?_) (fun h17 => ?_)
    · refine EC_seq ?_
      refine EC_reg ?_
      refine EL_val (.slice none 0 0) w10 rfl (r_assign rfl) ?_
      refine EL_val (.int .i64 10) w10 rfl (r_assign rfl) ?_
      refine EL_nil ?_
      refine thn_n ?_
      refine EC_ret ?_
      refine thn_r ?_
      refine fin2 Try.results13 (show _ = .slice none 0 0 from rfl) (show _ = .int .i64 10 from rfl) ⟨_, rfl, ?_⟩
      exact ⟨.inl ⟨strip_size hn (by simpa using h17), rfl⟩, B12⟩
    · simp at h17
      obtain ⟨hs1, hs2⟩ := h17
      obtain ⟨hf1, hf2⟩ := size_fits hn0 (by omega) hs1 hs2
      refine EC_skip ?_
      refine thn_n ?_
      refine EC_seq ?_
      refine EC_seq ?_
      refine EC_reg ?_
      refine EL_val v0 w10 rfl (r_move rfl) ?_
      refine EL_val (.int .i64 x9) w10 rfl (r_move rfl) ?_
      refine EL_int (2 + x9) rfl (r_addi rfl rfl (by omega)) ?_
      intro x18 hx18
      refine EL_val (cutV v0 ((x18 : Int).toNat) b.length) w10 rfl (r_slice rfl (H0.below B12) Try.underlying28 (by kernel_rfl) ((x18 : Int).toNat) b.length (by first | omega | (simp; omega) | simp) (by first | omega | (simp; omega) | simp) (.inr ⟨_, _, rfl, (show _ = Value.int .i64 ((x18 : Int).toNat : Int) from by rw [Int.toNat_of_nonneg (by omega)]; exact rfl)⟩) (.inl ⟨rfl, by simp⟩)) ?_
      have R19 : Bs w10 (cutV v0 ((x18 : Int).toNat) b.length) (b.drop ((x18 : Int).toNat)) := Bs.from (H0.below B12) ((x18 : Int).toNat) (by first | omega | (simp; omega) | simp)
      have L20 : (b.drop ((x18 : Int).toNat)).length = b.length - ((x18 : Int).toNat) := by first | (simp; done) | (simp; omega)
      refine EL_val (.int .i64 ((b.drop ((x18 : Int).toNat)).length : Int)) w10 rfl (lenB (r_len rfl R19 Try.underlying28)) ?_
      refine EL_val (.int .i64 0) w10 rfl (r_move rfl) ?_
      refine EL_nil ?_
      refine thn_n ?_
      refine EC_block ?_
      refine EC_loop (fun m' E' w' => ∃ i : Int, m' = ((b.drop ((x18 : Int).toNat)).length - i).toNat ∧ E' 40 = .int .i64 i ∧ E' 0 = v0 ∧ E' 4 = .int .i64 x9 ∧ E' 38 = (cutV v0 ((x18 : Int).toNat) b.length) ∧ E' 39 = .int .i64 ((b.drop ((x18 : Int).toNat)).length : Int) ∧ (0 ≤ i ∧ i ≤ ((b.drop ((x18 : Int).toNat)).length : Int)) ∧ (((b.drop ((x18 : Int).toNat)).take i.toNat).all (· == 0) = true) ∧ w10 = w') _ ⟨0, rfl, rfl, rfl, rfl, rfl, rfl, by simp, by simp, rfl⟩ ?_
      rintro _ E21 w22 ⟨i, rfl, e23, e24, e25, e26, e27, hi, hall, rfl⟩
      refine EC_seq ?_
      refine EC_reg ?_
      refine EL_val (.bool (decide (i < ((b.drop ((x18 : Int).toNat)).length : Int)))) w10 rfl (r_lss (by exact e23) (by exact e27)) ?_
      refine EL_nil ?_
      refine thn_n ?_
      refine EC_seq ?_
      refine EC_if (p := i < ((b.drop ((x18 : Int).toNat)).length : Int)) rfl (fun h28 => ?_) (fun h28 => ?_)
      · refine EC_skip ?_
        refine thn_n ?_
        refine EC_seq ?_
        refine EC_block ?_
        refine EC_seq ?_
        refine EC_reg ?_
        refine EL_val (.pointer (some (at_ (cutV v0 ((x18 : Int).toNat) b.length) ((i : Int).toNat)))) w10 rfl (r_index (by exact e26) R19 (by exact e23) (by omega) (by first | omega | (simp; omega) | simp) Try.underlying28 (by kernel_rfl)) ?_
        obtain ⟨b29, hb30⟩ := get_some (l := b.drop ((x18 : Int).toNat)) (j := (i : Int).toNat) (by omega)
        have hb31 := b29.toNat_lt
        refine EL_val (.int .u8 (b29.toNat : Int)) w10 rfl (r_load rfl (R19.cell (bs_get hb30)) Try.underlying5 rfl) ?_
        refine EL_val (.int .u8 (b29.toNat : Int)) w10 rfl (r_assign rfl) ?_
        refine EL_nil ?_
        refine thn_n ?_
        refine EC_seq ?_
        refine EC_reg ?_
        refine EL_val (.int .u8 (b29.toNat : Int)) w10 rfl (r_move rfl) ?_
        refine EL_val (.bool (decide ((b29.toNat : Int) ≠ 0))) w10 rfl (r_neq rfl rfl) ?_
        refine EL_nil ?_
        refine thn_n ?_
        refine EC_if (p := (b29.toNat : Int) ≠ 0) rfl (fun h32 => ?_) (fun h32 => ?_)
        · refine EC_seq ?_
          refine EC_reg ?_
          refine EL_val (.slice none 0 0) w10 rfl (r_assign rfl) ?_
          refine EL_val (.int .i64 10) w10 rfl (r_assign rfl) ?_
          refine EL_nil ?_
          refine thn_n ?_
          refine EC_ret ?_
          refine inB_r ?_
          refine thn_r ?_
          refine thn_r ?_
          refine inB_r ?_
          refine thn_r ?_
          refine fin2 Try.results13 (show _ = .slice none 0 0 from rfl) (show _ = .int .i64 10 from rfl) ⟨_, rfl, ?_⟩
          exact ⟨.inl ⟨strip_tail (by omega) hb30 h32, rfl⟩, B12⟩
        · refine EC_skip ?_
          refine inB_n ?_
          refine thn_n ?_
          refine EC_reg ?_
          refine EL_int (i + 1) rfl (r_addi (by exact e23) rfl (by omega)) ?_
          intro x33 hx33
          refine EL_val (.int .i64 x33) w10 rfl (r_move rfl) ?_
          refine EL_nil ?_
          refine thn_n ?_
          refine ⟨_, ?_, x33, rfl, rfl, (by exact e24), (by exact e25), (by exact e26), (by exact e27), by omega, all_step hi.1 hall hb30 h32 hx33, rfl⟩
          first | omega | (simp; omega)
      · refine EC_exit ?_
        refine thn_x ?_
        refine thn_x ?_
        refine inB_hit ?_
        refine thn_n ?_
        refine EC_seq ?_
        refine EC_reg ?_
        refine EL_val v0 w10 rfl (r_move (by exact e24)) ?_
        refine EL_val (.int .i64 x9) w10 rfl (r_move (by exact e25)) ?_
        refine EL_int (2 + x9) rfl (r_addi rfl rfl (by omega)) ?_
        intro x34 hx34
        refine EL_val (cutV v0 2 ((x34 : Int).toNat)) w10 rfl (r_slice rfl (H0.below B12) Try.underlying28 (by kernel_rfl) 2 ((x34 : Int).toNat) (by first | omega | (simp; omega) | simp) (by first | omega | (simp; omega) | simp) (.inr ⟨_, _, rfl, rfl⟩) (.inr ⟨_, _, rfl, (show _ = Value.int .i64 ((x34 : Int).toNat : Int) from by rw [Int.toNat_of_nonneg (by omega)]; exact rfl)⟩)) ?_
        have R35 : Bs w10 (cutV v0 2 ((x34 : Int).toNat)) ((b.take ((x34 : Int).toNat)).drop 2) := Bs.cut (H0.below B12) 2 ((x34 : Int).toNat) (by first | omega | (simp; omega) | simp) (by first | omega | (simp; omega) | simp)
        have L36 : ((b.take ((x34 : Int).toNat)).drop 2).length = ((x34 : Int).toNat) - 2 := by first | (simp; done) | (simp; omega)
        refine EL_append (v := .slice none 0 0) (xs := ([] : List UInt8).map byt) (ys := ((b.take ((x34 : Int).toNat)).drop 2).map byt) w10.heap.size elB rfl rfl rfl (by simpa using (World.ownsRow_nil _ _ _ _)) R35 (byt_one _) (by first | (simp only [List.length_map, List.length_nil]; omega) | (simp; omega)) (by decide) (Nat.le_refl _) ?_
        intro v37 w38 O39 G40 A41
        have O39' := own_app0 O39
        have B42 : Below w10.heap.size w10 w38 := ⟨G40.os, G40.tape, G40.output, G40.size, fun k hk => G40.block k hk (by simp [Value.ownBlock])⟩
        have B43 : Below w.heap.size w w38 := below_full B12 B12.size B42
        have B44 : Below w10.heap.size w10 w38 := B42
        refine EL_val v37 w38 rfl (r_assign rfl) ?_
        refine EL_val (.int .i64 0) w38 rfl (r_assign rfl) ?_
        refine EL_nil ?_
        refine thn_n ?_
        refine EC_ret ?_
        refine fin2 Try.results13 (show _ = v37 from rfl) (show _ = .int .i64 0 from rfl) ⟨_, rfl, ?_⟩
        have e : (b.take ((x34 : Int).toNat)).drop 2 = (b.drop 2).take (bnum b) := by rw [List.drop_take]; congr 1; omega
        have Oz : w38.ownsRow w.heap.size 5 1 v37 ((b.drop 2).take (bnum b)).length (((b.drop 2).take (bnum b)).map byt) := by rw [← e]; exact (own_mono O39' B12.size)
        exact ⟨.inr ⟨_, _, strip_good (n := x9) hn (by omega) hs2 (by omega) (by omega) hall, rfl, Oz⟩, B43⟩

theorem rsize_at (n z : Int) (w : World) (h : -9223372036854775808 ≤ n ∧ n ≤ 9223372036854775807) (hz : bsize n = z) : Ret Try.prog 11 [.int .i64 n] w fun v w' => v = .int .i64 z ∧ Below w.heap.size w w' := by
  subst hz; exact rsize_c n w h

theorem rpad_c (v0 : Value) (b : List UInt8) (w : World) (H0 : Bs w v0 b) (hb : b.length ≤ 2046) : Ret Try.prog 14 [v0] w fun v w' => ∃ p, v = p ∧ w'.ownsRow w.heap.size 5 1 p (bpad b).length ((bpad b).map byt) ∧ Below w.heap.size w w' := by
  obtain ⟨z, hz, hz0, hz1, hz2, hz3, hz4⟩ := bsize_facts b.length (by omega) (by omega)
  refine ret_E Try.func14 rfl Try.ntmps14 (by simp) ?_
  refine EC_seq ?_
  refine EC_reg ?_
  refine EL_val (.slice none 0 0) w rfl (r_assign rfl) ?_
  refine EL_nil ?_
  refine thn_n ?_
  refine EC_seq ?_
  refine EC_reg ?_
  refine EL_val v0 w rfl (r_move rfl) ?_
  refine EL_val (.int .i64 (b.length : Int)) w rfl (lenB (r_len rfl H0 Try.underlying28)) ?_
  refine EL_int ((b.length : Int) / 256) rfl (r_quoi rfl rfl (by omega) (by omega)) ?_
  intro x1 hx1
  refine EL_val (.int .u8 (x1 % 256)) w rfl (r_convb 3 5 rfl Try.underlying3 Try.underlying5) ?_
  refine EL_val v0 w rfl (r_move rfl) ?_
  refine EL_val (.int .i64 (b.length : Int)) w rfl (lenB (r_len rfl H0 Try.underlying28)) ?_
  refine EL_int ((b.length : Int) % 256) rfl (r_remi rfl rfl (by omega) (by omega)) ?_
  intro x2 hx2
  refine EL_val (.int .u8 (x2 % 256)) w rfl (r_convb 3 5 rfl Try.underlying3 Try.underlying5) ?_
  refine EL_lit w.heap.size #[.int .u8 (x1 % 256), .int .u8 (x2 % 256)] elB rfl (by decide) rfl (Nat.le_refl _) (by kernel_rfl) ?_
  intro v3 w4 O5 B6 k7 z8
  have B9 : Below w.heap.size w w4 := B6
  have O5' := own_eq (l := [bof x1, bof x2]) O5 (by simp [bof_val, byt])
  refine EL_val v0 w4 rfl (r_move rfl) ?_
  refine EL_append (v := v3) (xs := [bof x1, bof x2].map byt) (ys := b.map byt) w.heap.size elB rfl rfl rfl (by simpa using O5') (H0.below B9) (byt_one _) (by first | (simp only [List.length_map, List.length_nil]; omega) | (simp; omega)) (by decide) B9.size ?_
  intro v10 w11 O12 G13 A14
  have O12' := own_app O12
  have B15 : Below w.heap.size w w11 := below_grew B9 G13 O5' (Nat.le_refl _) (B9.size)
  refine EL_val v10 w11 rfl (r_assign rfl) ?_
  refine EL_nil ?_
  refine thn_n ?_
  refine EC_seq ?_
  refine EC_block ?_
  refine EC_loop (fun m' E' w' => ∃ k : Nat, ∃ vo : Value, m' = (z - b.length - k).toNat ∧ E' 3 = vo ∧ E' 0 = v0 ∧ E' 2 = .slice none 0 0 ∧ ((k : Int) + b.length + 2 ≤ z) ∧ Below w.heap.size w w' ∧ w'.ownsRow w.heap.size 5 1 vo ((bof ((b.length : Int) / 256) :: bof (b.length : Int) :: b) ++ List.replicate k (0 : UInt8)).length (((bof ((b.length : Int) / 256) :: bof (b.length : Int) :: b) ++ List.replicate k (0 : UInt8)).map byt)) _ ⟨0, v10, rfl, rfl, rfl, rfl, by omega, B15, own_as O12' (by have e1 := hx1; have e2 := hx2; simp [e1, e2, bof_mod])⟩ ?_
  rintro _ E17 w18 ⟨k, vo, rfl, e19, e20, e21, hk, B22, O23⟩
  refine EC_seq ?_
  refine EC_seq ?_
  refine EC_reg ?_
  refine EL_val vo w18 rfl (r_move (by exact e19)) ?_
  refine EL_val (.int .i64 (((bof ((b.length : Int) / 256) :: bof (b.length : Int) :: b) ++ List.replicate k (0 : UInt8)).length : Int)) w18 rfl (lenB (r_len rfl (own_row O23) Try.underlying28)) ?_
  refine EL_val v0 w18 rfl (r_move (by exact e20)) ?_
  refine EL_val (.int .i64 (b.length : Int)) w18 rfl (lenB (r_len rfl (H0.below B22) Try.underlying28)) ?_
  refine EL_ret [.int .i64 (b.length : Int)] rfl Try.func11 rfl nm11 rfl (rsize_at (b.length : Int) z w18 (by omega) hz) ?_
  rintro _ w24 ⟨rfl, B25⟩
  have B26 : Below w.heap.size w w24 := below_full B22 B22.size B25
  have B27 : Below w18.heap.size w18 w24 := B25
  refine EL_val (.bool (decide ((((bof ((b.length : Int) / 256) :: bof (b.length : Int) :: b) ++ List.replicate k (0 : UInt8)).length : Int) < z))) w24 rfl (r_lss rfl rfl) ?_
  refine EL_nil ?_
  refine thn_n ?_
  refine EC_if (p := (((bof ((b.length : Int) / 256) :: bof (b.length : Int) :: b) ++ List.replicate k (0 : UInt8)).length : Int) < z) rfl (fun h28 => ?_) (fun h28 => ?_)
  · refine EC_skip ?_
    refine thn_n ?_
    refine EC_block ?_
    refine EC_reg ?_
    refine EL_val vo w24 rfl (r_move (by exact e19)) ?_
    refine EL_lit w24.heap.size #[.int .u8 0] elB rfl (by decide) rfl (Nat.le_refl _) (by kernel_rfl) ?_
    intro v29 w30 O31 B32 k33 z34
    have B35 : Below w.heap.size w w30 := below_full B26 B26.size B32
    have B36 : Below w18.heap.size w18 w30 := below_full B27 B27.size B32
    have B37 : Below w24.heap.size w24 w30 := B32
    have O31' := own_eq (l := [(0 : UInt8)]) O31 (by simp [bof_val, byt])
    refine EL_append (v := vo) (xs := ((bof ((b.length : Int) / 256) :: bof (b.length : Int) :: b) ++ List.replicate k (0 : UInt8)).map byt) (ys := [(0 : UInt8)].map byt) w.heap.size elB rfl rfl rfl (by simpa using (own_below O23 B36)) (own_row O31') (byt_one _) (by first | (simp only [List.length_map, List.length_nil]; omega) | (simp; omega)) (by decide) B35.size ?_
    intro v38 w39 O40 G41 A42
    have O40' := own_app O40
    have B43 : Below w.heap.size w w39 := below_grew B35 G41 (own_below O23 B36) (Nat.le_refl _) (B35.size)
    refine EL_val v38 w39 rfl (r_assign rfl) ?_
    refine EL_nil ?_
    refine inB_n ?_
    refine thn_n ?_
    refine ⟨_, ?_, k + 1, v38, rfl, rfl, (by exact e20), (by exact e21), by have := h28; simp at this; omega, B43, own_as O40' (by simp [List.replicate_succ'])⟩
    first | omega | (simp; omega)
  · refine EC_exit ?_
    refine thn_x ?_
    refine thn_x ?_
    refine inB_hit ?_
    refine thn_n ?_
    refine EC_seq ?_
    refine EC_reg ?_
    refine EL_val vo w24 rfl (r_move (by exact e19)) ?_
    refine EL_val vo w24 rfl (r_assign rfl) ?_
    refine EL_nil ?_
    refine thn_n ?_
    refine EC_ret ?_
    refine fin1 Try.results14 (show _ = vo from rfl) ⟨_, rfl, ?_⟩
    have e : (bof ((b.length : Int) / 256) :: bof (b.length : Int) :: b) ++ List.replicate k (0 : UInt8) = bpad b := by have := h28; simp at this; simp only [bpad, hz]; simp; omega
    exact ⟨_, rfl, own_as (own_below O23 B27) e, B26⟩

theorem rstrip_c (v0 : Value) (b : List UInt8) (w : World) (H0 : Bs w v0 b) : Ret Try.prog 15 [v0] w fun v w' => RStripPost b w w' v := by
  have hl := H0.len_le
  simp only [List.length_map] at hl
  refine ret_E Try.func15 rfl Try.ntmps15 (by simp) ?_
  refine EC_seq ?_
  refine EC_reg ?_
  refine EL_val (.slice none 0 0) w rfl (r_assign rfl) ?_
  refine EL_val (.bool false) w rfl (r_assign rfl) ?_
  refine EL_nil ?_
  refine thn_n ?_
  refine EC_seq ?_
  refine EC_seq ?_
  refine EC_reg ?_
  refine EL_val v0 w rfl (r_move rfl) ?_
  refine EL_val (.int .i64 (b.length : Int)) w rfl (lenB (r_len rfl H0 Try.underlying28)) ?_
  refine EL_val (.bool (decide ((b.length : Int) < 64))) w rfl (r_lss rfl rfl) ?_
  refine EL_nil ?_
  refine thn_n ?_
  refine EC_if (p := (b.length : Int) < 64) rfl (fun h1 => ?_) (fun h1 => ?_)
  · refine EC_seq ?_
    refine EC_reg ?_
    refine EL_val (.slice none 0 0) w rfl (r_assign rfl) ?_
    refine EL_val (.bool false) w rfl (r_assign rfl) ?_
    refine EL_nil ?_
    refine thn_n ?_
    refine EC_ret ?_
    refine thn_r ?_
    refine fin2 Try.results15 (show _ = .slice none 0 0 from rfl) (show _ = .bool false from rfl) ⟨_, rfl, ?_⟩
    exact ⟨.inl ⟨strip_short h1, rfl⟩, (Below.refl _ _)⟩
  · have hlen : ¬ (b.length : Int) < 64 := h1
    refine EC_skip ?_
    refine thn_n ?_
    refine EC_seq ?_
    refine EC_quietB (by kernel_rfl) (by kernel_rfl) ?_
    refine EQ_val v0 rfl (fun _ hw => r_move rfl) ?_
    refine EQ_val (.pointer (some (at_ v0 ((0 : Int).toNat)))) rfl (fun _ hw => r_index rfl (H0.below hw) rfl (by omega) (by first | omega | (simp; omega) | simp) Try.underlying28 (by kernel_rfl)) ?_
    obtain ⟨b2, hb3⟩ := get_some (l := b) (j := (0 : Int).toNat) (by omega)
    have hb4 := b2.toNat_lt
    refine EQ_val (.int .u8 (b2.toNat : Int)) rfl (fun _ hw => r_load rfl ((H0.below hw).cell (bs_get hb3)) Try.underlying5 rfl) ?_
    refine EQ_val (.int .i64 (b2.toNat : Int)) rfl (fun _ hw => r_convi 5 3 rfl Try.underlying5 Try.underlying3 (by omega)) ?_
    refine EQ_int ((b2.toNat : Int) * 256) rfl (fun _ hw => r_muli rfl rfl (by omega)) ?_
    intro x5 hx5
    refine EQ_val v0 rfl (fun _ hw => r_move rfl) ?_
    refine EQ_val (.pointer (some (at_ v0 ((1 : Int).toNat)))) rfl (fun _ hw => r_index rfl (H0.below hw) rfl (by omega) (by first | omega | (simp; omega) | simp) Try.underlying28 (by kernel_rfl)) ?_
    obtain ⟨b6, hb7⟩ := get_some (l := b) (j := (1 : Int).toNat) (by omega)
    have hb8 := b6.toNat_lt
    refine EQ_val (.int .u8 (b6.toNat : Int)) rfl (fun _ hw => r_load rfl ((H0.below hw).cell (bs_get hb7)) Try.underlying5 rfl) ?_
    refine EQ_val (.int .i64 (b6.toNat : Int)) rfl (fun _ hw => r_convi 5 3 rfl Try.underlying5 Try.underlying3 (by omega)) ?_
    refine EQ_int (x5 + (b6.toNat : Int)) rfl (fun _ hw => r_addi rfl rfl (by omega)) ?_
    intro x9 hx9
    refine EQ_val (.int .i64 x9) rfl (fun _ hw => r_assign rfl) ?_
    have hn : x9 = bnum b := by rw [bnum_eq hb3 hb7]; omega
    have hn0 : 0 ≤ x9 := by omega
    refine EQ_nil ?_
    intro w10 B11
    have B12 : Below w.heap.size w w10 := B11
    refine thn_n ?_
    refine EC_seq ?_
    refine EC_seq ?_
    refine EC_reg ?_
    refine EL_val (.int .i64 x9) w10 rfl (r_move rfl) ?_
    refine EL_int (x9 + 2) rfl (r_addi rfl rfl (by omega)) ?_
    intro x13 hx13
    refine EL_val v0 w10 rfl (r_move rfl) ?_
    refine EL_val (.int .i64 (b.length : Int)) w10 rfl (lenB (r_len rfl (H0.below B12) Try.underlying28)) ?_
    refine EL_val (.bool (decide ((b.length : Int) < x13))) w10 rfl (r_gtr rfl rfl) ?_
    refine EL_val (.bool (decide ((b.length : Int) < x13))) w10 rfl (r_move rfl) ?_
    refine EL_gite 24 rfl rfl rfl (.int .i64 x9) rfl (fun g14 => r_move rfl) ?_
    rcases Bool.eq_false_or_eq_true (decide ((b.length : Int) < x13)) with q15 | q15
    · have q15' : (b.length : Int) < x13 := of_decide_eq_true q15
      have hwhy : (b.length : Int) < x9 + 2 ∨ bsize x9 = 0 := .inl (by omega)
      refine EL_pass 24 rfl (by exact congrArg Value.bool q15) rfl rfl rfl ?_
      refine EL_pass 24 rfl (by exact congrArg Value.bool q15) rfl rfl rfl ?_
      refine EL_val (.bool true) w10 rfl (r_pickT (by exact congrArg Value.bool q15) rfl) ?_
      refine EL_nil ?_
      refine thn_n ?_
      refine EC_cond_true rfl ?_
      refine EC_seq ?_
      refine EC_reg ?_
      refine EL_val (.slice none 0 0) w10 rfl (r_assign rfl) ?_
      refine EL_val (.bool false) w10 rfl (r_assign rfl) ?_
      refine EL_nil ?_
      refine thn_n ?_
      refine EC_ret ?_
      refine thn_r ?_
      refine fin2 Try.results15 (show _ = .slice none 0 0 from rfl) (show _ = .bool false from rfl) ⟨_, rfl, ?_⟩
      exact ⟨.inl ⟨rstrip_big hn hwhy, rfl⟩, B12⟩
    · have q15' : ¬ ((b.length : Int) < x13) := of_decide_eq_false q15
      refine EL_gret 24 rfl (by exact congrArg Value.bool q15) rfl rfl [.int .i64 x9] rfl Try.func11 rfl nm11 (by exact args1 (by exact cond_of (show ((decide ((b.length : Int) < x13)) == false) = true from by rw [q15]; rfl) rfl)) (rsize_c x9 w10 (by omega)) ?_
      rintro _ w16 ⟨rfl, B17⟩
      have B18 : Below w.heap.size w w16 := below_full B12 B12.size B17
      have B19 : Below w10.heap.size w10 w16 := B17
      refine EL_gval 24 rfl (by exact congrArg Value.bool q15) rfl rfl (.bool (decide ((bsize x9) = 0))) w16 rfl (r_eql rfl rfl) ?_
      refine EL_val (.bool (decide ((bsize x9) = 0))) w16 rfl (r_pickF (by exact congrArg Value.bool q15) rfl) ?_
      refine EL_nil ?_
      refine thn_n ?_
      refine EC_if (p := (bsize x9) = 0) rfl (fun h20 => ?_) (fun h20 => ?_)
      · refine EC_seq ?_
        refine EC_reg ?_
        refine EL_val (.slice none 0 0) w16 rfl (r_assign rfl) ?_
        refine EL_val (.bool false) w16 rfl (r_assign rfl) ?_
        refine EL_nil ?_
        refine thn_n ?_
        refine EC_ret ?_
        refine thn_r ?_
        refine fin2 Try.results15 (show _ = .slice none 0 0 from rfl) (show _ = .bool false from rfl) ⟨_, rfl, ?_⟩
        exact ⟨.inl ⟨rstrip_big hn (.inr h20), rfl⟩, B18⟩
      · have hnz : ¬ bsize x9 = 0 := h20
        obtain ⟨hn1, hn2⟩ := bsize_ne hnz
        refine EC_skip ?_
        refine thn_n ?_
        refine EC_seq ?_
        refine EC_reg ?_
        refine EL_val v0 w16 rfl (r_move rfl) ?_
        refine EL_val (.int .i64 x9) w16 rfl (r_move rfl) ?_
        refine EL_int (2 + x9) rfl (r_addi rfl rfl (by omega)) ?_
        intro x21 hx21
        refine EL_val (cutV v0 2 ((x21 : Int).toNat)) w16 rfl (r_slice rfl (H0.below B18) Try.underlying28 (by kernel_rfl) 2 ((x21 : Int).toNat) (by first | omega | (simp; omega) | simp) (by first | omega | (simp; omega) | simp) (.inr ⟨_, _, rfl, rfl⟩) (.inr ⟨_, _, rfl, (show _ = Value.int .i64 ((x21 : Int).toNat : Int) from by rw [Int.toNat_of_nonneg (by omega)]; exact rfl)⟩)) ?_
        have R22 : Bs w16 (cutV v0 2 ((x21 : Int).toNat)) ((b.take ((x21 : Int).toNat)).drop 2) := Bs.cut (H0.below B18) 2 ((x21 : Int).toNat) (by first | omega | (simp; omega) | simp) (by first | omega | (simp; omega) | simp)
        have L23 : ((b.take ((x21 : Int).toNat)).drop 2).length = ((x21 : Int).toNat) - 2 := by first | (simp; done) | (simp; omega)
        refine EL_val (cutV v0 2 ((x21 : Int).toNat)) w16 rfl (r_assign rfl) ?_
        refine EL_nil ?_
        refine thn_n ?_
        refine EC_seq ?_
        refine EC_seq ?_
        refine EC_held (fun w' => Below w16.heap.size w16 w') (by kernel_rfl) ?_
        intro w24 B25 z26
        have B27 : Below w.heap.size w w24 := below_full B18 B18.size B25
        have B28 : Below w10.heap.size w10 w24 := below_full B19 B19.size B25
        have B29 : Below w16.heap.size w16 w24 := B25
        refine EA_strong (fun w' => Below w24.heap.size w24 w') (fun _ hw => below_full B29 B29.size hw) ?_
        refine EA_take 0 rfl (by kernel_rfl) (by kernel_rfl) (by kernel_rfl) (cutV v0 2 ((x21 : Int).toNat)) rfl (fun _ hw => r_move rfl) (Below.refl _ _) ?_
        refine EA_take 3 rfl (by kernel_rfl) (by kernel_rfl) (by kernel_rfl) v0 rfl (fun _ hw => r_move rfl) (Below.refl _ _) ?_
        refine EA_take 4 rfl (by kernel_rfl) (by kernel_rfl) (by kernel_rfl) (.string (str b)) rfl (fun _ hw => r_str rfl ((H0.below B27).below hw) Try.underlying28 Try.underlying5 Try.underlying9) (Below.refl _ _) ?_
        refine EA_call 1 rfl (by kernel_rfl) [(cutV v0 2 ((x21 : Int).toNat))] (.inl rfl) rfl Try.func14 rfl nm14 rfl (rpad_c (cutV v0 2 ((x21 : Int).toNat)) ((b.take ((x21 : Int).toNat)).drop 2) w24 (R22.below B29) (by first | omega | (simp; omega))) ?_
        rintro _ w33 ⟨p30, rfl, O31, B32⟩
        have B34 : Below w.heap.size w w33 := below_full B27 B27.size B32
        have B35 : Below w10.heap.size w10 w33 := below_full B28 B28.size B32
        have B36 : Below w16.heap.size w16 w33 := below_full B29 B29.size B32
        have B37 : Below w24.heap.size w24 w33 := B32
        refine ⟨B37, ?_⟩
        refine EA_strong (fun w' => Below w33.heap.size w33 w') (fun _ hw => below_full B37 B37.size hw) ?_
        refine EA_take 2 rfl (by kernel_rfl) (by kernel_rfl) (by kernel_rfl) (.string (str (bpad ((b.take ((x21 : Int).toNat)).drop 2)))) rfl (fun _ hw => r_str rfl ((own_row O31).below hw) Try.underlying28 Try.underlying5 Try.underlying9) (Below.refl _ _) ?_
        refine EA_take 5 rfl (by kernel_rfl) (by kernel_rfl) (by kernel_rfl) (.bool (decide ((bpad ((b.take ((x21 : Int).toNat)).drop 2)) ≠ b))) rfl (fun _ hw => r_neqs rfl rfl) (Below.refl _ _) ?_
        refine EA_done (by kernel_rfl) ?_
        refine thn_n ?_
        refine EC_if (p := (bpad ((b.take ((x21 : Int).toNat)).drop 2)) ≠ b) rfl (fun h38 => ?_) (fun h38 => ?_)
        · refine EC_seq ?_
          refine EC_reg ?_
          refine EL_val (.slice none 0 0) w33 rfl (r_assign rfl) ?_
          refine EL_val (.bool false) w33 rfl (r_assign rfl) ?_
          refine EL_nil ?_
          refine thn_n ?_
          refine EC_ret ?_
          refine thn_r ?_
          refine fin2 Try.results15 (show _ = .slice none 0 0 from rfl) (show _ = .bool false from rfl) ⟨_, rfl, ?_⟩
          exact ⟨.inl ⟨(bpad_bstrip (by omega) (by omega) (by omega)).2 (by rw [cut_eq (n := x9) hn (by omega)] at h38; exact h38), rfl⟩, B34⟩
        · refine EC_skip ?_
          refine thn_n ?_
          refine EC_seq ?_
          refine EC_reg ?_
          refine EL_val (cutV v0 2 ((x21 : Int).toNat)) w33 rfl (r_move rfl) ?_
          refine EL_val (cutV v0 2 ((x21 : Int).toNat)) w33 rfl (r_assign rfl) ?_
          refine EL_val (.bool true) w33 rfl (r_assign rfl) ?_
          refine EL_nil ?_
          refine thn_n ?_
          refine EC_ret ?_
          refine fin2 Try.results15 (show _ = (cutV v0 2 ((x21 : Int).toNat)) from rfl) (show _ = .bool true from rfl) ⟨_, rfl, ?_⟩
          have e : (b.take ((x21 : Int).toNat)).drop 2 = (b.drop 2).take (bnum b) := cut_eq hn (by omega)
          have Rz := (R22.below B36)
          rw [e] at Rz
          exact ⟨.inr ⟨_, _, (bpad_bstrip (by omega) (by omega) (by omega)).1 (by have := h38; rw [e] at this; simpa using this), rfl, Rz⟩, B34⟩

theorem anchor_c (w : World) : Ret Try.prog 9 [] w fun v w' => v = .bool true ∧ Below w.heap.size w w' := by
  have hbl : (bpad [(120 : UInt8)]).length = 64 := by decide
  refine ret_E Try.func9 rfl Try.ntmps9 (by simp) ?_
  refine EC_seq ?_
  refine EC_reg ?_
  refine EL_val (.bool false) w rfl (r_assign rfl) ?_
  refine EL_nil ?_
  refine thn_n ?_
  refine EC_seq ?_
  refine EC_reg ?_
  refine EL_ret [.int .i64 62] rfl Try.func10 rfl nm10 rfl (size_at 62 64 0 w (by omega) (by decide) (by decide)) ?_
  rintro _ _ ⟨rfl, rfl⟩
  refine EL_val (.tuple #[.int .i64 64, .int .i64 0]) w rfl (r_move rfl) ?_
  refine EL_val (.int .i64 64) w rfl (r_extract rfl rfl) ?_
  refine EL_val (.int .i64 0) w rfl (r_extract rfl rfl) ?_
  refine EL_val (.int .i64 64) w rfl (r_assign rfl) ?_
  refine EL_val (.int .i64 0) w rfl (r_assign rfl) ?_
  refine EL_nil ?_
  refine thn_n ?_
  refine EC_seq ?_
  refine EC_reg ?_
  refine EL_ret [.int .i64 63] rfl Try.func10 rfl nm10 rfl (size_at 63 128 0 w (by omega) (by decide) (by decide)) ?_
  rintro _ _ ⟨rfl, rfl⟩
  refine EL_val (.tuple #[.int .i64 128, .int .i64 0]) w rfl (r_move rfl) ?_
  refine EL_val (.int .i64 128) w rfl (r_extract rfl rfl) ?_
  refine EL_val (.int .i64 0) w rfl (r_extract rfl rfl) ?_
  refine EL_val (.int .i64 128) w rfl (r_assign rfl) ?_
  refine EL_val (.int .i64 0) w rfl (r_assign rfl) ?_
  refine EL_nil ?_
  refine thn_n ?_
  refine EC_seq ?_
  refine EC_reg ?_
  refine EL_lit w.heap.size #[.int .u8 120] elB rfl (by decide) rfl (Nat.le_refl _) (by kernel_rfl) ?_
  intro v1 w2 O3 B4 k5 z6
  have B7 : Below w.heap.size w w2 := B4
  have O3' := own_eq (l := [(120 : UInt8)]) O3 (by simp [bof_val, byt])
  refine EL_mark (v := v1) rfl rfl O3' (by simp) Try.underlying28 Try.underlying5 ?_
  intro w8 R9 G10 z11
  have B12 : Below w.heap.size w w8 := below_grew B7 G10 O3' (Nat.le_refl _) (B7.size)
  refine EL_ret [v1] rfl Try.func12 rfl nm12 rfl (pad_ok v1 [(120 : UInt8)] w8 R9 (by first | omega | (simp; done) | (simp; omega))) ?_
  rintro _ w16 ⟨p13, rfl, O14, B15⟩
  have B17 : Below w.heap.size w w16 := below_full B12 B12.size B15
  have B18 : Below w8.heap.size w8 w16 := B15
  refine EL_val (.tuple #[p13, .int .i64 0]) w16 rfl (r_move rfl) ?_
  refine EL_val p13 w16 rfl (r_extract rfl rfl) ?_
  refine EL_val (.int .i64 0) w16 rfl (r_extract rfl rfl) ?_
  refine EL_val p13 w16 rfl (r_assign rfl) ?_
  refine EL_val (.int .i64 0) w16 rfl (r_assign rfl) ?_
  refine EL_nil ?_
  refine thn_n ?_
  refine EC_seq ?_
  refine EC_reg ?_
  refine EL_val (.int .i64 0) w16 rfl (r_move rfl) ?_
  refine EL_val (.bool true) w16 rfl (r_dec (by decide) (r_eql rfl rfl)) ?_
  refine EL_val (.bool true) w16 rfl (r_move rfl) ?_
  refine EL_gval 23 rfl rfl rfl rfl (.int .i64 0) w16 rfl (r_move rfl) ?_
  refine EL_gval 23 rfl rfl rfl rfl (.bool true) w16 rfl (r_dec (by decide) (r_eql rfl rfl)) ?_
  refine EL_val (.bool true) w16 rfl (r_pickT rfl rfl) ?_
  refine EL_val (.bool true) w16 rfl (r_move rfl) ?_
  refine EL_gval 27 rfl rfl rfl rfl (.int .i64 0) w16 rfl (r_move rfl) ?_
  refine EL_gval 27 rfl rfl rfl rfl (.bool true) w16 rfl (r_dec (by decide) (r_eql rfl rfl)) ?_
  refine EL_val (.bool true) w16 rfl (r_pickT rfl rfl) ?_
  refine EL_val (.bool true) w16 rfl (r_move rfl) ?_
  refine EL_gval 31 rfl rfl rfl rfl (.int .i64 64) w16 rfl (r_move rfl) ?_
  refine EL_gval 31 rfl rfl rfl rfl (.bool true) w16 rfl (r_dec (by decide) (r_eql rfl rfl)) ?_
  refine EL_val (.bool true) w16 rfl (r_pickT rfl rfl) ?_
  refine EL_val (.bool true) w16 rfl (r_move rfl) ?_
  refine EL_gval 35 rfl rfl rfl rfl (.int .i64 128) w16 rfl (r_move rfl) ?_
  refine EL_gval 35 rfl rfl rfl rfl (.bool true) w16 rfl (r_dec (by decide) (r_eql rfl rfl)) ?_
  refine EL_val (.bool true) w16 rfl (r_pickT rfl rfl) ?_
  refine EL_val (.bool true) w16 rfl (r_move rfl) ?_
  refine EL_gval 39 rfl rfl rfl rfl p13 w16 rfl (r_move rfl) ?_
  refine EL_gval 39 rfl rfl rfl rfl (.int .i64 ((bpad [(120 : UInt8)]).length : Int)) w16 rfl (lenB (r_len rfl (own_row O14) Try.underlying28)) ?_
  refine EL_gval 39 rfl rfl rfl rfl (.bool true) w16 rfl (r_dec (show (decide (((bpad [(120 : UInt8)]).length : Int) = 64)) = true from by decide) (r_eql rfl rfl)) ?_
  refine EL_val (.bool true) w16 rfl (r_pickT rfl rfl) ?_
  refine EL_val (.bool true) w16 rfl (r_move rfl) ?_
  refine EL_gval 44 rfl rfl rfl rfl p13 w16 rfl (r_move rfl) ?_
  refine EL_gval 44 rfl rfl rfl rfl (.pointer (some (at_ p13 ((1 : Int).toNat)))) w16 rfl (r_index rfl (own_row O14) rfl (by omega) (by first | omega | (simp; omega) | simp) Try.underlying28 (by kernel_rfl)) ?_
  obtain ⟨b19, hb20⟩ := get_some (l := bpad [(120 : UInt8)]) (j := (1 : Int).toNat) (by omega)
  have hb21 := b19.toNat_lt
  refine EL_gval 44 rfl rfl rfl rfl (.int .u8 (b19.toNat : Int)) w16 rfl (r_load rfl ((own_row O14).cell (bs_get hb20)) Try.underlying5 rfl) ?_
  refine EL_gval 44 rfl rfl rfl rfl (.bool true) w16 rfl (r_dec (show (decide ((b19.toNat : Int) = 1)) = true from by have e := hb20; rw [show (bpad [(120 : UInt8)])[(1 : Int).toNat]? = some 1 from by decide] at e; cases e; decide) (r_eql rfl rfl)) ?_
  refine EL_val (.bool true) w16 rfl (r_pickT rfl rfl) ?_
  refine EL_val (.bool true) w16 rfl (r_move rfl) ?_
  refine EL_gval 50 rfl rfl rfl rfl p13 w16 rfl (r_move rfl) ?_
  refine EL_gval 50 rfl rfl rfl rfl (.pointer (some (at_ p13 ((2 : Int).toNat)))) w16 rfl (r_index rfl (own_row O14) rfl (by omega) (by first | omega | (simp; omega) | simp) Try.underlying28 (by kernel_rfl)) ?_
  obtain ⟨b22, hb23⟩ := get_some (l := bpad [(120 : UInt8)]) (j := (2 : Int).toNat) (by omega)
  have hb24 := b22.toNat_lt
  refine EL_gval 50 rfl rfl rfl rfl (.int .u8 (b22.toNat : Int)) w16 rfl (r_load rfl ((own_row O14).cell (bs_get hb23)) Try.underlying5 rfl) ?_
  refine EL_gval 50 rfl rfl rfl rfl (.bool true) w16 rfl (r_dec (show (decide ((b22.toNat : Int) = 120)) = true from by have e := hb23; rw [show (bpad [(120 : UInt8)])[(2 : Int).toNat]? = some 120 from by decide] at e; cases e; decide) (r_eql rfl rfl)) ?_
  refine EL_val (.bool true) w16 rfl (r_pickT rfl rfl) ?_
  refine EL_val (.bool true) w16 rfl (r_assign rfl) ?_
  refine EL_nil ?_
  refine thn_n ?_
  refine EC_ret ?_
  refine fin1 Try.results9 (show _ = .bool true from rfl) ⟨_, rfl, ?_⟩
  exact ⟨rfl, B17⟩

theorem strip_some (v0 : Value) (b t : List UInt8) (w : World) (H0 : Bs w v0 b) (h : bstrip b = some t) : Ret Try.prog 13 [v0] w fun v w' => ∃ p, v = .tuple #[p, .int .i64 0] ∧ w'.ownsRow w.heap.size 5 1 p t.length (t.map byt) ∧ Below w.heap.size w w' := by
  refine (strip_c v0 b w H0).mono ?_
  rintro v w' ⟨⟨h1, _⟩ | ⟨t', p, h1, hv, ho⟩, hb⟩
  · rw [h] at h1; cases h1
  · rw [h] at h1; cases h1; exact ⟨p, hv, ho, hb⟩
theorem strip_none (v0 : Value) (b : List UInt8) (w : World) (H0 : Bs w v0 b) (h : bstrip b = none) : Ret Try.prog 13 [v0] w fun v w' => v = .tuple #[.slice none 0 0, .int .i64 10] ∧ Below w.heap.size w w' := by
  refine (strip_c v0 b w H0).mono ?_
  rintro v w' ⟨⟨_, hv⟩ | ⟨t', p, h1, _⟩, hb⟩
  · exact ⟨hv, hb⟩
  · rw [h] at h1; cases h1
theorem rstrip_some (v0 : Value) (b t : List UInt8) (w : World) (H0 : Bs w v0 b) (h : bstrip b = some t) : Ret Try.prog 15 [v0] w fun v w' => ∃ p, v = .tuple #[p, .bool true] ∧ Bs w' p t ∧ Below w.heap.size w w' := by
  refine (rstrip_c v0 b w H0).mono ?_
  rintro v w' ⟨⟨h1, _⟩ | ⟨t', p, h1, hv, ho⟩, hb⟩
  · rw [h] at h1; cases h1
  · rw [h] at h1; cases h1; exact ⟨p, hv, ho, hb⟩
theorem rstrip_none (v0 : Value) (b : List UInt8) (w : World) (H0 : Bs w v0 b) (h : bstrip b = none) : Ret Try.prog 15 [v0] w fun v w' => v = .tuple #[.slice none 0 0, .bool false] ∧ Below w.heap.size w w' := by
  refine (rstrip_c v0 b w H0).mono ?_
  rintro v w' ⟨⟨_, hv⟩ | ⟨t', p, h1, _⟩, hb⟩
  · exact ⟨hv, hb⟩
  · rw [h] at h1; cases h1

end Go.Proofs.Ytlfjgikkaffmaaa
