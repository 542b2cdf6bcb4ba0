import Derived.Test.YtlhaojpkejpgfaaBase
set_option linter.unusedVariables false
set_option linter.unusedSimpArgs false
namespace Go.Proofs.Ytlhaojpkejpgfaa
open Go.RowKit Go.Ecal

set_option maxRecDepth 100000 in
set_option maxHeartbeats 4000000 in
theorem mul64_c (x y : Int) (w : World) (hx : 0 ≤ x ∧ x < 18446744073709551616) (hy : 0 ≤ y ∧ y < 18446744073709551616) : Ret Try.prog 37 [.int .u64 x, .int .u64 y] w fun v w' => v = .tuple #[.int .u64 (x * y / 18446744073709551616), .int .u64 (x * y % 18446744073709551616)] ∧ w = w' := by
  refine ret_E Try.func37 rfl Try.ntmps37 (by simp) ?_
  refine EC_seq ?_
  refine EC_reg ?_
  refine EL_val (.int .u64 0) w rfl (r_assign rfl) ?_
  refine EL_val (.int .u64 0) w rfl (r_assign rfl) ?_
  refine EL_nil ?_
  refine thn_n ?_
  refine EC_seq ?_
  refine EC_reg ?_
  refine EL_val (.int .u64 x) w rfl (r_move rfl) ?_
  refine EL_int (x % 4294967296) rfl (r_mask (p := 4294967296) 32 rfl rfl (by decide) (by decide) (by decide) (by omega)) ?_
  intro x11 hx11
  refine EL_val (.int .u64 x11) w rfl (r_assign rfl) ?_
  refine EL_nil ?_
  refine thn_n ?_
  refine EC_seq ?_
  refine EC_reg ?_
  refine EL_val (.int .u64 x) w rfl (r_move rfl) ?_
  refine EL_int (x / 4294967296) rfl (r_shri (n := 32) rfl rfl rfl (by decide) (by decide)) ?_
  intro x12 hx12
  refine EL_val (.int .u64 x12) w rfl (r_assign rfl) ?_
  refine EL_nil ?_
  refine thn_n ?_
  refine EC_seq ?_
  refine EC_reg ?_
  refine EL_val (.int .u64 y) w rfl (r_move rfl) ?_
  refine EL_int (y % 4294967296) rfl (r_mask (p := 4294967296) 32 rfl rfl (by decide) (by decide) (by decide) (by omega)) ?_
  intro x13 hx13
  refine EL_val (.int .u64 x13) w rfl (r_assign rfl) ?_
  refine EL_nil ?_
  refine thn_n ?_
  refine EC_seq ?_
  refine EC_reg ?_
  refine EL_val (.int .u64 y) w rfl (r_move rfl) ?_
  refine EL_int (y / 4294967296) rfl (r_shri (n := 32) rfl rfl rfl (by decide) (by decide)) ?_
  intro x14 hx14
  refine EL_val (.int .u64 x14) w rfl (r_assign rfl) ?_
  refine EL_nil ?_
  refine thn_n ?_
  refine EC_seq ?_
  refine EC_reg ?_
  have q00 := mul_bd (B := 4294967295) (C := 4294967295) (x := x11) (y := x13) (by omega) (by omega)
  have q10 := mul_bd (B := 4294967295) (C := 4294967295) (x := x12) (y := x13) (by omega) (by omega)
  have q01 := mul_bd (B := 4294967295) (C := 4294967295) (x := x11) (y := x14) (by omega) (by omega)
  have q11 := mul_bd (B := 4294967295) (C := 4294967295) (x := x12) (y := x14) (by omega) (by omega)
  have qq := mul_parts (x := x) (y := y) (x1 := x12) (x0 := x11) (y1 := x14) (y0 := x13) (by omega) (by omega)
  refine EL_val (.int .u64 x11) w rfl (r_move rfl) ?_
  refine EL_val (.int .u64 x13) w rfl (r_move rfl) ?_
  refine EL_int ((x11 * x13) % 18446744073709551616) rfl (r_mulq rfl rfl) ?_
  intro x15 hx15
  refine EL_val (.int .u64 x15) w rfl (r_assign rfl) ?_
  refine EL_nil ?_
  refine thn_n ?_
  refine EC_seq ?_
  refine EC_reg ?_
  refine EL_val (.int .u64 x12) w rfl (r_move rfl) ?_
  refine EL_val (.int .u64 x13) w rfl (r_move rfl) ?_
  refine EL_int ((x12 * x13) % 18446744073709551616) rfl (r_mulq rfl rfl) ?_
  intro x16 hx16
  refine EL_val (.int .u64 x15) w rfl (r_move rfl) ?_
  refine EL_int (x15 / 4294967296) rfl (r_shri (n := 32) rfl rfl rfl (by decide) (by decide)) ?_
  intro x17 hx17
  refine EL_int ((x16 + x17) % 18446744073709551616) rfl (r_addq rfl rfl) ?_
  intro x18 hx18
  refine EL_val (.int .u64 x18) w rfl (r_assign rfl) ?_
  refine EL_nil ?_
  refine thn_n ?_
  refine EC_seq ?_
  refine EC_reg ?_
  refine EL_val (.int .u64 x18) w rfl (r_move rfl) ?_
  refine EL_int (x18 % 4294967296) rfl (r_mask (p := 4294967296) 32 rfl rfl (by decide) (by decide) (by decide) (by omega)) ?_
  intro x19 hx19
  refine EL_val (.int .u64 x19) w rfl (r_assign rfl) ?_
  refine EL_nil ?_
  refine thn_n ?_
  refine EC_seq ?_
  refine EC_reg ?_
  refine EL_val (.int .u64 x18) w rfl (r_move rfl) ?_
  refine EL_int (x18 / 4294967296) rfl (r_shri (n := 32) rfl rfl rfl (by decide) (by decide)) ?_
  intro x20 hx20
  refine EL_val (.int .u64 x20) w rfl (r_assign rfl) ?_
  refine EL_nil ?_
  refine thn_n ?_
  refine EC_seq ?_
  refine EC_reg ?_
  refine EL_val (.int .u64 x19) w rfl (r_move rfl) ?_
  refine EL_val (.int .u64 x11) w rfl (r_move rfl) ?_
  refine EL_val (.int .u64 x14) w rfl (r_move rfl) ?_
  refine EL_int ((x11 * x14) % 18446744073709551616) rfl (r_mulq rfl rfl) ?_
  intro x21 hx21
  refine EL_int ((x19 + x21) % 18446744073709551616) rfl (r_addq rfl rfl) ?_
  intro x22 hx22
  refine EL_val (.int .u64 x22) w rfl (r_assign rfl) ?_
  refine EL_nil ?_
  refine thn_n ?_
  refine EC_seq ?_
  refine EC_reg ?_
  refine EL_val (.int .u64 x12) w rfl (r_move rfl) ?_
  refine EL_val (.int .u64 x14) w rfl (r_move rfl) ?_
  refine EL_int ((x12 * x14) % 18446744073709551616) rfl (r_mulq rfl rfl) ?_
  intro x23 hx23
  refine EL_val (.int .u64 x20) w rfl (r_move rfl) ?_
  refine EL_int ((x23 + x20) % 18446744073709551616) rfl (r_addq rfl rfl) ?_
  intro x24 hx24
  refine EL_val (.int .u64 x22) w rfl (r_move rfl) ?_
  refine EL_int (x22 / 4294967296) rfl (r_shri (n := 32) rfl rfl rfl (by decide) (by decide)) ?_
  intro x25 hx25
  refine EL_int ((x24 + x25) % 18446744073709551616) rfl (r_addq rfl rfl) ?_
  intro x26 hx26
  refine EL_val (.int .u64 x26) w rfl (r_assign rfl) ?_
  refine EL_nil ?_
  refine thn_n ?_
  refine EC_seq ?_
  refine EC_reg ?_
  refine EL_val (.int .u64 x) w rfl (r_move rfl) ?_
  refine EL_val (.int .u64 y) w rfl (r_move rfl) ?_
  refine EL_int ((x * y) % 18446744073709551616) rfl (r_mulq rfl rfl) ?_
  intro x27 hx27
  refine EL_val (.int .u64 x27) w rfl (r_assign rfl) ?_
  refine EL_nil ?_
  refine thn_n ?_
  refine EC_ret ?_
  refine fin2 Try.results37 (show _ = .int .u64 x26 from rfl) (show _ = .int .u64 x27 from rfl) ⟨_, rfl, ?_⟩
  exact ⟨by rw [show x26 = x * y / 18446744073709551616 from by omega, show x27 = x * y % 18446744073709551616 from by omega], rfl⟩

set_option maxRecDepth 100000 in
set_option maxHeartbeats 4000000 in
theorem wadd_c (m n : Int) (w : World) (hm : 0 ≤ m) (hn : 0 ≤ n) (h : m + n < 6277101735386680763835789423207666416102355444464034512896) : Ret Try.prog 26 [.agg ((wof m).map (Value.int .u64)).toArray, .agg ((wof n).map (Value.int .u64)).toArray] w fun v w' => v = .agg ((wof (m + n)).map (Value.int .u64)).toArray ∧ Below w.heap.size w w' := by
  obtain ⟨a0, a1, a2, aw, ab0, ab1, ab2, av⟩ := wof_ex (n := m) (by omega) (by omega)
  obtain ⟨b0, b1, b2, bw, bb0, bb1, bb2, bv⟩ := wof_ex (n := n) (by omega) (by omega)
  rw [aw, bw]
  refine ret_E Try.func26 rfl Try.ntmps26 (by simp) ?_
  refine EC_seq ?_
  refine EC_reg ?_
  refine EL_box (([a0, a1, a2] : List Int).map (Value.int .u64)) rfl rfl rfl ?_
  intro b11 w12 k13 A14 B15 z16
  have B17 : Below w.heap.size w w12 := B15
  have A14' : Arr w12 b11 49 (([a0, a1, a2] : List Int).map (Value.int .u64)) := A14
  refine EL_box (([b0, b1, b2] : List Int).map (Value.int .u64)) rfl rfl rfl ?_
  intro b18 w19 k20 A21 B22 z23
  have ne24 : b11 < b18 := by have := (A14').lt; omega
  have B25 : Below w.heap.size w w19 := below_full B17 B17.size B22
  have B26 : Below w12.heap.size w12 w19 := B22
  have A21' : Arr w19 b18 49 (([b0, b1, b2] : List Int).map (Value.int .u64)) := A21
  refine EL_alloc (z := .agg #[.int .u64 0, .int .u64 0, .int .u64 0]) (List.replicate 3 (.int .u64 0)) rfl (by kernel_rfl) rfl ?_
  intro b27 w28 k29 A30 B31 z32
  have ne33 : b11 < b27 := by have := ((A14'.below B26)).lt; omega
  have ne34 : b18 < b27 := by have := (A21').lt; omega
  have B35 : Below w.heap.size w w28 := below_full B25 B25.size B31
  have B36 : Below w12.heap.size w12 w28 := below_full B26 B26.size B31
  have B37 : Below w19.heap.size w19 w28 := B31
  have A30' : Arr w28 b27 49 ((List.replicate 3 0).map (Value.int .u64)) := A30
  refine EL_nil ?_
  refine thn_n ?_
  refine EC_seq ?_
  refine EC_reg ?_
  refine EL_val (.int .u64 0) w28 rfl (r_assign rfl) ?_
  refine EL_nil ?_
  refine thn_n ?_
  refine EC_seq ?_
  refine EC_seq ?_
  refine EC_reg ?_
  refine EL_val (.int .i64 0) w28 rfl (r_move rfl) ?_
  refine EL_nil ?_
  refine thn_n ?_
  refine EC_block ?_
  refine EC_for 4 ?_
  refine U_step ?_
  refine EC_seq ?_
  refine EC_reg ?_
  refine EL_val (.bool true) w28 rfl (r_dec (by decide) (r_lss rfl rfl)) ?_
  refine EL_nil ?_
  refine thn_n ?_
  refine EC_seq ?_
  refine EC_cond_true rfl ?_
  refine EC_skip ?_
  refine thn_n ?_
  refine EC_seq ?_
  refine EC_block ?_
  refine EC_seq ?_
  refine EC_reg ?_
  refine EL_val (.int .i64 0) w28 rfl (r_move rfl) ?_
  refine EL_val (.int .i64 0) w28 rfl (r_assign rfl) ?_
  refine EL_nil ?_
  refine thn_n ?_
  refine EC_heads 13 (by kernel_rfl) ?_
  intro w38 B39 z40
  have B41 : Below w.heap.size w w38 := below_full B35 B35.size B39
  have B42 : Below w12.heap.size w12 w38 := below_full B36 B36.size B39
  have B43 : Below w19.heap.size w19 w38 := below_full B37 B37.size B39
  have B44 : Below w28.heap.size w28 w38 := B39
  refine EG_take 0 rfl (by kernel_rfl) (by kernel_rfl) (by kernel_rfl) rfl 40 (by kernel_rfl) (.int .i64 0) rfl (r_move rfl) rfl ?_
  refine EG_take 1 rfl (by kernel_rfl) (by kernel_rfl) (by kernel_rfl) rfl 40 (by kernel_rfl) (.int .i64 0) rfl (r_move rfl) rfl ?_
  refine EG_take 2 rfl (by kernel_rfl) (by kernel_rfl) (by kernel_rfl) rfl 40 (by kernel_rfl) (ptr b11 0) rfl (r_indexA (i := 0) rfl rfl (by omega) (by omega) Try.underlying49 (by kernel_rfl)) rfl ?_
  refine EG_take 3 rfl (by kernel_rfl) (by kernel_rfl) (by kernel_rfl) rfl 40 (by kernel_rfl) (.int .u64 a0) rfl (r_loadA rfl (A14'.below B42) (u := .int .u64 a0) rfl Try.underlying47 rfl) rfl ?_
  refine EG_take 4 rfl (by kernel_rfl) (by kernel_rfl) (by kernel_rfl) rfl 40 (by kernel_rfl) (.int .i64 0) rfl (r_move rfl) rfl ?_
  refine EG_take 5 rfl (by kernel_rfl) (by kernel_rfl) (by kernel_rfl) rfl 40 (by kernel_rfl) (ptr b18 0) rfl (r_indexA (i := 0) rfl rfl (by omega) (by omega) Try.underlying49 (by kernel_rfl)) rfl ?_
  refine EG_take 6 rfl (by kernel_rfl) (by kernel_rfl) (by kernel_rfl) rfl 40 (by kernel_rfl) (.int .u64 b0) rfl (r_loadA rfl (A21'.below B43) (u := .int .u64 b0) rfl Try.underlying47 rfl) rfl ?_
  refine EG_take 7 rfl (by kernel_rfl) (by kernel_rfl) (by kernel_rfl) rfl 40 (by kernel_rfl) (.int .u64 0) rfl (r_move rfl) rfl ?_
  obtain ⟨x45, hx45⟩ : ∃ z : Int, z = (a0 + b0 + 0) % 18446744073709551616 := ⟨_, rfl⟩
  obtain ⟨x46, hx46⟩ : ∃ z : Int, z = (a0 + b0 + 0) / 18446744073709551616 := ⟨_, rfl⟩
  refine EG_take 8 rfl (by kernel_rfl) (by kernel_rfl) (by kernel_rfl) rfl 40 (by kernel_rfl) (.tuple #[.int .u64 x45, .int .u64 x46]) rfl (by rw [hx45, hx46]; exact r_add64 Try.func36 nm36 (by kernel_rfl) (by kernel_rfl) (by kernel_rfl) rfl rfl rfl (by omega) (by omega) (by omega) (by omega)) rfl ?_
  refine EG_take 9 rfl (by kernel_rfl) (by kernel_rfl) (by kernel_rfl) rfl 40 (by kernel_rfl) (.tuple #[.int .u64 x45, .int .u64 x46]) rfl (r_move rfl) rfl ?_
  refine EG_take 10 rfl (by kernel_rfl) (by kernel_rfl) (by kernel_rfl) rfl 40 (by kernel_rfl) (.int .u64 x45) rfl (r_extract rfl rfl) rfl ?_
  refine EG_float 11 rfl (by kernel_rfl) (by kernel_rfl) (by kernel_rfl) rfl (.inr rfl) (.int .u64 x46) rfl (fun _ => r_extract rfl rfl) ?_
  refine EG_take 12 rfl (by kernel_rfl) (by kernel_rfl) (by kernel_rfl) rfl 40 (by kernel_rfl) (ptr b11 0) rfl (r_indexA (i := 0) rfl rfl (by omega) (by omega) Try.underlying49 (by kernel_rfl)) rfl ?_
  refine EG_one 13 rfl (by kernel_rfl) (by kernel_rfl) ?_
  refine EL_storeA (j := 0) (u := .int .u64 x45) rfl rfl (A14'.below B42) (by first | (simp; omega) | simp) rfl (by kernel_rfl) ?_
  intro w47 A48 K49 z50
  have A48' : Arr w47 b11 49 ((([x45, a1, a2] : List Int)).map (Value.int .u64)) := A48
  have B51 : Below w.heap.size w w47 := below_kept B41 K49 (Nat.le_trans (Nat.le_refl _) (Nat.le_of_eq k13.symm)) (B41.size)
  have A52 : Arr w47 b18 49 (([b0, b1, b2] : List Int).map (Value.int .u64)) := (A21'.below B43).grew K49 (by simp; omega)
  have A53 : Arr w47 b27 49 ((List.replicate 3 0).map (Value.int .u64)) := (A30'.below B44).grew K49 (by simp; omega)
  refine EL_nil ?_
  refine ⟨rfl, ?_⟩
  refine EG_float 14 rfl (by kernel_rfl) (by kernel_rfl) (by kernel_rfl) rfl (.inl (by kernel_rfl)) (.int .u64 x46) rfl (fun _ => r_assign rfl) ?_
  refine EG_done (by kernel_rfl) ?_
  refine inB_n ?_
  refine thn_n ?_
  refine EC_reg ?_
  refine EL_val (.int .i64 1) w47 rfl (r_asn (by kernel_rfl) (r_add rfl rfl)) ?_
  refine EL_val (.int .i64 1) w47 rfl (r_move rfl) ?_
  refine EL_nil ?_
  refine thn_n ?_
  refine U_step ?_
  refine EC_seq ?_
  refine EC_reg ?_
  refine EL_val (.bool true) w47 rfl (r_dec (by decide) (r_lss rfl rfl)) ?_
  refine EL_nil ?_
  refine thn_n ?_
  refine EC_seq ?_
  refine EC_cond_true rfl ?_
  refine EC_skip ?_
  refine thn_n ?_
  refine EC_seq ?_
  refine EC_block ?_
  refine EC_seq ?_
  refine EC_reg ?_
  refine EL_val (.int .i64 1) w47 rfl (r_move rfl) ?_
  refine EL_val (.int .i64 1) w47 rfl (r_assign rfl) ?_
  refine EL_nil ?_
  refine thn_n ?_
  refine EC_heads 13 (by kernel_rfl) ?_
  intro w54 B55 z56
  have B57 : Below w.heap.size w w54 := below_full B51 B51.size B55
  have B58 : Below w47.heap.size w47 w54 := B55
  refine EG_take 0 rfl (by kernel_rfl) (by kernel_rfl) (by kernel_rfl) rfl 40 (by kernel_rfl) (.int .i64 1) rfl (r_move rfl) rfl ?_
  refine EG_take 1 rfl (by kernel_rfl) (by kernel_rfl) (by kernel_rfl) rfl 40 (by kernel_rfl) (.int .i64 1) rfl (r_move rfl) rfl ?_
  refine EG_take 2 rfl (by kernel_rfl) (by kernel_rfl) (by kernel_rfl) rfl 40 (by kernel_rfl) (ptr b11 1) rfl (r_indexA (i := 1) rfl rfl (by omega) (by omega) Try.underlying49 (by kernel_rfl)) rfl ?_
  refine EG_take 3 rfl (by kernel_rfl) (by kernel_rfl) (by kernel_rfl) rfl 40 (by kernel_rfl) (.int .u64 a1) rfl (r_loadA rfl (A48'.below B58) (u := .int .u64 a1) rfl Try.underlying47 rfl) rfl ?_
  refine EG_take 4 rfl (by kernel_rfl) (by kernel_rfl) (by kernel_rfl) rfl 40 (by kernel_rfl) (.int .i64 1) rfl (r_move rfl) rfl ?_
  refine EG_take 5 rfl (by kernel_rfl) (by kernel_rfl) (by kernel_rfl) rfl 40 (by kernel_rfl) (ptr b18 1) rfl (r_indexA (i := 1) rfl rfl (by omega) (by omega) Try.underlying49 (by kernel_rfl)) rfl ?_
  refine EG_take 6 rfl (by kernel_rfl) (by kernel_rfl) (by kernel_rfl) rfl 40 (by kernel_rfl) (.int .u64 b1) rfl (r_loadA rfl (A52.below B58) (u := .int .u64 b1) rfl Try.underlying47 rfl) rfl ?_
  refine EG_take 7 rfl (by kernel_rfl) (by kernel_rfl) (by kernel_rfl) rfl 40 (by kernel_rfl) (.int .u64 x46) rfl (r_move rfl) rfl ?_
  obtain ⟨x59, hx59⟩ : ∃ z : Int, z = (a1 + b1 + x46) % 18446744073709551616 := ⟨_, rfl⟩
  obtain ⟨x60, hx60⟩ : ∃ z : Int, z = (a1 + b1 + x46) / 18446744073709551616 := ⟨_, rfl⟩
  refine EG_take 8 rfl (by kernel_rfl) (by kernel_rfl) (by kernel_rfl) rfl 40 (by kernel_rfl) (.tuple #[.int .u64 x59, .int .u64 x60]) rfl (by rw [hx59, hx60]; exact r_add64 Try.func36 nm36 (by kernel_rfl) (by kernel_rfl) (by kernel_rfl) rfl rfl rfl (by omega) (by omega) (by omega) (by omega)) rfl ?_
  refine EG_take 9 rfl (by kernel_rfl) (by kernel_rfl) (by kernel_rfl) rfl 40 (by kernel_rfl) (.tuple #[.int .u64 x59, .int .u64 x60]) rfl (r_move rfl) rfl ?_
  refine EG_take 10 rfl (by kernel_rfl) (by kernel_rfl) (by kernel_rfl) rfl 40 (by kernel_rfl) (.int .u64 x59) rfl (r_extract rfl rfl) rfl ?_
  refine EG_float 11 rfl (by kernel_rfl) (by kernel_rfl) (by kernel_rfl) rfl (.inr rfl) (.int .u64 x60) rfl (fun _ => r_extract rfl rfl) ?_
  refine EG_take 12 rfl (by kernel_rfl) (by kernel_rfl) (by kernel_rfl) rfl 40 (by kernel_rfl) (ptr b11 1) rfl (r_indexA (i := 1) rfl rfl (by omega) (by omega) Try.underlying49 (by kernel_rfl)) rfl ?_
  refine EG_one 13 rfl (by kernel_rfl) (by kernel_rfl) ?_
  refine EL_storeA (j := 1) (u := .int .u64 x59) rfl rfl (A48'.below B58) (by first | (simp; omega) | simp) rfl (by kernel_rfl) ?_
  intro w61 A62 K63 z64
  have A62' : Arr w61 b11 49 ((([x45, x59, a2] : List Int)).map (Value.int .u64)) := A62
  have B65 : Below w.heap.size w w61 := below_kept B57 K63 (Nat.le_trans (Nat.le_refl _) (Nat.le_of_eq k13.symm)) (B57.size)
  have A66 : Arr w61 b18 49 (([b0, b1, b2] : List Int).map (Value.int .u64)) := (A52.below B58).grew K63 (by simp; omega)
  have A67 : Arr w61 b27 49 ((List.replicate 3 0).map (Value.int .u64)) := (A53.below B58).grew K63 (by simp; omega)
  refine EL_nil ?_
  refine ⟨rfl, ?_⟩
  refine EG_float 14 rfl (by kernel_rfl) (by kernel_rfl) (by kernel_rfl) rfl (.inl (by kernel_rfl)) (.int .u64 x60) rfl (fun _ => r_assign rfl) ?_
  refine EG_done (by kernel_rfl) ?_
  refine inB_n ?_
  refine thn_n ?_
  refine EC_reg ?_
  refine EL_val (.int .i64 2) w61 rfl (r_asn (by kernel_rfl) (r_add rfl rfl)) ?_
  refine EL_val (.int .i64 2) w61 rfl (r_move rfl) ?_
  refine EL_nil ?_
  refine thn_n ?_
  refine U_step ?_
  refine EC_seq ?_
  refine EC_reg ?_
  refine EL_val (.bool true) w61 rfl (r_dec (by decide) (r_lss rfl rfl)) ?_
  refine EL_nil ?_
  refine thn_n ?_
  refine EC_seq ?_
  refine EC_cond_true rfl ?_
  refine EC_skip ?_
  refine thn_n ?_
  refine EC_seq ?_
  refine EC_block ?_
  refine EC_seq ?_
  refine EC_reg ?_
  refine EL_val (.int .i64 2) w61 rfl (r_move rfl) ?_
  refine EL_val (.int .i64 2) w61 rfl (r_assign rfl) ?_
  refine EL_nil ?_
  refine thn_n ?_
  refine EC_heads 13 (by kernel_rfl) ?_
  intro w68 B69 z70
  have B71 : Below w.heap.size w w68 := below_full B65 B65.size B69
  have B72 : Below w61.heap.size w61 w68 := B69
  refine EG_take 0 rfl (by kernel_rfl) (by kernel_rfl) (by kernel_rfl) rfl 40 (by kernel_rfl) (.int .i64 2) rfl (r_move rfl) rfl ?_
  refine EG_take 1 rfl (by kernel_rfl) (by kernel_rfl) (by kernel_rfl) rfl 40 (by kernel_rfl) (.int .i64 2) rfl (r_move rfl) rfl ?_
  refine EG_take 2 rfl (by kernel_rfl) (by kernel_rfl) (by kernel_rfl) rfl 40 (by kernel_rfl) (ptr b11 2) rfl (r_indexA (i := 2) rfl rfl (by omega) (by omega) Try.underlying49 (by kernel_rfl)) rfl ?_
  refine EG_take 3 rfl (by kernel_rfl) (by kernel_rfl) (by kernel_rfl) rfl 40 (by kernel_rfl) (.int .u64 a2) rfl (r_loadA rfl (A62'.below B72) (u := .int .u64 a2) rfl Try.underlying47 rfl) rfl ?_
  refine EG_take 4 rfl (by kernel_rfl) (by kernel_rfl) (by kernel_rfl) rfl 40 (by kernel_rfl) (.int .i64 2) rfl (r_move rfl) rfl ?_
  refine EG_take 5 rfl (by kernel_rfl) (by kernel_rfl) (by kernel_rfl) rfl 40 (by kernel_rfl) (ptr b18 2) rfl (r_indexA (i := 2) rfl rfl (by omega) (by omega) Try.underlying49 (by kernel_rfl)) rfl ?_
  refine EG_take 6 rfl (by kernel_rfl) (by kernel_rfl) (by kernel_rfl) rfl 40 (by kernel_rfl) (.int .u64 b2) rfl (r_loadA rfl (A66.below B72) (u := .int .u64 b2) rfl Try.underlying47 rfl) rfl ?_
  refine EG_take 7 rfl (by kernel_rfl) (by kernel_rfl) (by kernel_rfl) rfl 40 (by kernel_rfl) (.int .u64 x60) rfl (r_move rfl) rfl ?_
  obtain ⟨x73, hx73⟩ : ∃ z : Int, z = (a2 + b2 + x60) % 18446744073709551616 := ⟨_, rfl⟩
  obtain ⟨x74, hx74⟩ : ∃ z : Int, z = (a2 + b2 + x60) / 18446744073709551616 := ⟨_, rfl⟩
  refine EG_take 8 rfl (by kernel_rfl) (by kernel_rfl) (by kernel_rfl) rfl 40 (by kernel_rfl) (.tuple #[.int .u64 x73, .int .u64 x74]) rfl (by rw [hx73, hx74]; exact r_add64 Try.func36 nm36 (by kernel_rfl) (by kernel_rfl) (by kernel_rfl) rfl rfl rfl (by omega) (by omega) (by omega) (by omega)) rfl ?_
  refine EG_take 9 rfl (by kernel_rfl) (by kernel_rfl) (by kernel_rfl) rfl 40 (by kernel_rfl) (.tuple #[.int .u64 x73, .int .u64 x74]) rfl (r_move rfl) rfl ?_
  refine EG_take 10 rfl (by kernel_rfl) (by kernel_rfl) (by kernel_rfl) rfl 40 (by kernel_rfl) (.int .u64 x73) rfl (r_extract rfl rfl) rfl ?_
  refine EG_float 11 rfl (by kernel_rfl) (by kernel_rfl) (by kernel_rfl) rfl (.inr rfl) (.int .u64 x74) rfl (fun _ => r_extract rfl rfl) ?_
  refine EG_take 12 rfl (by kernel_rfl) (by kernel_rfl) (by kernel_rfl) rfl 40 (by kernel_rfl) (ptr b11 2) rfl (r_indexA (i := 2) rfl rfl (by omega) (by omega) Try.underlying49 (by kernel_rfl)) rfl ?_
  refine EG_one 13 rfl (by kernel_rfl) (by kernel_rfl) ?_
  refine EL_storeA (j := 2) (u := .int .u64 x73) rfl rfl (A62'.below B72) (by first | (simp; omega) | simp) rfl (by kernel_rfl) ?_
  intro w75 A76 K77 z78
  have A76' : Arr w75 b11 49 ((([x45, x59, x73] : List Int)).map (Value.int .u64)) := A76
  have B79 : Below w.heap.size w w75 := below_kept B71 K77 (Nat.le_trans (Nat.le_refl _) (Nat.le_of_eq k13.symm)) (B71.size)
  have A80 : Arr w75 b18 49 (([b0, b1, b2] : List Int).map (Value.int .u64)) := (A66.below B72).grew K77 (by simp; omega)
  have A81 : Arr w75 b27 49 ((List.replicate 3 0).map (Value.int .u64)) := (A67.below B72).grew K77 (by simp; omega)
  refine EL_nil ?_
  refine ⟨rfl, ?_⟩
  refine EG_float 14 rfl (by kernel_rfl) (by kernel_rfl) (by kernel_rfl) rfl (.inl (by kernel_rfl)) (.int .u64 x74) rfl (fun _ => r_assign rfl) ?_
  refine EG_done (by kernel_rfl) ?_
  refine inB_n ?_
  refine thn_n ?_
  refine EC_reg ?_
  refine EL_val (.int .i64 3) w75 rfl (r_asn (by kernel_rfl) (r_add rfl rfl)) ?_
  refine EL_val (.int .i64 3) w75 rfl (r_move rfl) ?_
  refine EL_nil ?_
  refine thn_n ?_
  refine U_step ?_
  refine EC_seq ?_
  refine EC_reg ?_
  refine EL_val (.bool false) w75 rfl (r_dec (by decide) (r_lss rfl rfl)) ?_
  refine EL_nil ?_
  refine thn_n ?_
  refine EC_seq ?_
  refine EC_cond_false rfl ?_
  refine EC_exit ?_
  refine thn_x ?_
  refine thn_x ?_
  refine inB_hit ?_
  refine thn_n ?_
  refine EC_seq ?_
  refine EC_reg ?_
  refine EL_val (.agg (([x45, x59, x73] : List Int).map (Value.int .u64)).toArray) w75 rfl (r_loadAll rfl A76' Try.underlying49 rfl (Eq.trans (show _ = some 3 from by kernel_rfl) (congrArg some (by first | (simp; done) | (simp; omega) | rfl)))) ?_
  refine EL_storeAll (v := .agg (([x45, x59, x73] : List Int).map (Value.int .u64)).toArray) (cs' := (([x45, x59, x73] : List Int).map (Value.int .u64)).toArray) rfl rfl rfl A81 (by first | rfl | (simp; done) | (simp; omega)) (Eq.trans (show _ = some 3 from by kernel_rfl) (congrArg some (by first | (simp; done) | (simp; omega) | rfl))) (ints_oneCell _ _) ?_
  intro w82 A83 K84 z85
  have A83' : Arr w82 b27 49 (([x45, x59, x73] : List Int).map (Value.int .u64)) := by simpa using A83
  have B86 : Below w.heap.size w w82 := below_kept B79 K84 (Nat.le_trans B25.size (Nat.le_of_eq k29.symm)) (B79.size)
  have A87 : Arr w82 b11 49 (([x45, x59, x73] : List Int).map (Value.int .u64)) := A76'.grew K84 (by simp; omega)
  have A88 : Arr w82 b18 49 (([b0, b1, b2] : List Int).map (Value.int .u64)) := A80.grew K84 (by simp; omega)
  refine EL_nil ?_
  refine thn_n ?_
  refine EC_ret ?_
  refine fin1c Try.results26 (show _ = ptr b27 from rfl) A83' Try.underlying49 rfl (by kernel_rfl) ⟨_, rfl, ?_⟩
  have ew := wof_of (a := x45) (b := x59) (c := x73) (n := m + n) (by omega) (by omega) (by omega) (by omega)
  exact ⟨by rw [← ew], B86⟩

end Go.Proofs.Ytlhaojpkejpgfaa
