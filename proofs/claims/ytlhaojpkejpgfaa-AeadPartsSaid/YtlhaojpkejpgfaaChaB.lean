import Derived.Test.YtlhaojpkejpgfaaCha
set_option linter.unusedVariables false
set_option linter.unusedSimpArgs false
namespace Go.Proofs.Ytlhaojpkejpgfaa
open Go.RowKit Go.Ecal

set_option maxHeartbeats 2000000 in
theorem first_c (v0 : Value) (k : List UInt8) (c : Int) (v1 : Value) (n : List UInt8) (w : World) (H0 : Bs w v0 k) (H1 : Bs w v1 n) (hk : k.length = 32) (hn : n.length = 12) (hc : 0 ≤ c ∧ c < 4294967296) : Ret Try.prog 22 [v0, .int .i64 c, v1] w fun v w' => v = .agg ((st k c n).map (Value.int .u32)).toArray ∧ Below w.heap.size w w' := by
  refine ret_E Try.func22 rfl Try.ntmps22 (by simp) ?_
  refine EC_seq ?_
  refine EC_reg ?_
  refine EL_alloc (z := .agg #[.int .u32 0, .int .u32 0, .int .u32 0, .int .u32 0, .int .u32 0, .int .u32 0, .int .u32 0, .int .u32 0, .int .u32 0, .int .u32 0, .int .u32 0, .int .u32 0, .int .u32 0, .int .u32 0, .int .u32 0, .int .u32 0]) (List.replicate 16 (.int .u32 0)) rfl (by kernel_rfl) rfl ?_
  intro b11 w12 k13 A14 B15 z16
  have B17 : Below w.heap.size w w12 := B15
  have A14' : Arr w12 b11 44 ((List.replicate 16 0).map (Value.int .u32)) := A14
  refine EL_nil ?_
  refine thn_n ?_
  refine EC_seq ?_
  refine EC_reg ?_
  refine EL_val (.agg #[.int .u32 1634760805, .int .u32 857760878, .int .u32 2036477234, .int .u32 1797285236, .int .u32 0, .int .u32 0, .int .u32 0, .int .u32 0, .int .u32 0, .int .u32 0, .int .u32 0, .int .u32 0, .int .u32 0, .int .u32 0, .int .u32 0, .int .u32 0]) w12 rfl (r_buildA (z := .agg #[.int .u32 0, .int .u32 0, .int .u32 0, .int .u32 0, .int .u32 0, .int .u32 0, .int .u32 0, .int .u32 0, .int .u32 0, .int .u32 0, .int .u32 0, .int .u32 0, .int .u32 0, .int .u32 0, .int .u32 0, .int .u32 0]) _ Try.underlying44 (by kernel_rfl) (by kernel_rfl) (by kernel_rfl)) ?_
  refine EL_alloc (z := .agg #[.int .u32 0, .int .u32 0, .int .u32 0, .int .u32 0, .int .u32 0, .int .u32 0, .int .u32 0, .int .u32 0, .int .u32 0, .int .u32 0, .int .u32 0, .int .u32 0, .int .u32 0, .int .u32 0, .int .u32 0, .int .u32 0]) (List.replicate 16 (.int .u32 0)) rfl (by kernel_rfl) rfl ?_
  intro b18 w19 k20 A21 B22 z23
  have ne24 : b11 < b18 := by have := (A14').lt; omega
  have B25 : Below w.heap.size w w19 := below_full B17 B17.size B22
  have B26 : Below w12.heap.size w12 w19 := B22
  have A21' : Arr w19 b18 44 ((List.replicate 16 0).map (Value.int .u32)) := A21
  refine EL_storeAll (v := .agg #[.int .u32 1634760805, .int .u32 857760878, .int .u32 2036477234, .int .u32 1797285236, .int .u32 0, .int .u32 0, .int .u32 0, .int .u32 0, .int .u32 0, .int .u32 0, .int .u32 0, .int .u32 0, .int .u32 0, .int .u32 0, .int .u32 0, .int .u32 0]) (cs' := (([1634760805, 857760878, 2036477234, 1797285236, 0, 0, 0, 0, 0, 0, 0, 0, 0, 0, 0, 0] : List Int).map (Value.int .u32)).toArray) rfl rfl rfl A21' (by first | rfl | (simp; done) | (simp; omega)) (Eq.trans (show _ = some 16 from by kernel_rfl) (congrArg some (by first | (simp; done) | (simp; omega) | rfl))) (ints_oneCell _ _) ?_
  intro w27 A28 K29 z30
  have A28' : Arr w27 b18 44 (([1634760805, 857760878, 2036477234, 1797285236, 0, 0, 0, 0, 0, 0, 0, 0, 0, 0, 0, 0] : List Int).map (Value.int .u32)) := A28
  have B31 : Below w.heap.size w w27 := below_kept B25 K29 (Nat.le_trans B17.size (Nat.le_of_eq k20.symm)) (B25.size)
  have B32 : Below w12.heap.size w12 w27 := below_kept B26 K29 (Nat.le_trans (Nat.le_refl _) (Nat.le_of_eq k20.symm)) (B26.size)
  have A33 : Arr w27 b11 44 ((List.replicate 16 0).map (Value.int .u32)) := (A14'.below B26).grew K29 (by simp; omega)
  refine EL_nil ?_
  refine thn_n ?_
  refine EC_seq ?_
  refine EC_seq ?_
  refine EC_reg ?_
  refine EL_val (.int .i64 0) w27 rfl (r_move rfl) ?_
  refine EL_nil ?_
  refine thn_n ?_
  refine EC_block ?_
  refine EC_for 9 ?_
  refine U_step ?_
  refine EC_seq ?_
  refine EC_reg ?_
  refine EL_val (.bool true) w27 rfl (r_dec (by decide) (r_lss rfl rfl)) ?_
  refine EL_nil ?_
  refine thn_n ?_
  refine EC_seq ?_
  refine EC_cond_true rfl ?_
  refine EC_skip ?_
  refine thn_n ?_
  refine EC_seq ?_
  refine EC_block ?_
  refine EC_seq ?_
  refine EC_reg ?_
  refine EL_val (.int .i64 0) w27 rfl (r_move rfl) ?_
  refine EL_val (.int .i64 0) w27 rfl (r_assign rfl) ?_
  refine EL_nil ?_
  refine thn_n ?_
  refine EC_reg ?_
  refine EL_val (.int .i64 0) w27 rfl (r_move rfl) ?_
  refine EL_val (.int .i64 4) w27 rfl (r_asn (by kernel_rfl) (r_add rfl rfl)) ?_
  refine EL_val v0 w27 rfl (r_move rfl) ?_
  refine EL_val (.int .i64 0) w27 rfl (r_move rfl) ?_
  refine EL_val (.int .i64 0) w27 rfl (r_asn (by kernel_rfl) (r_mul rfl rfl)) ?_
  refine EL_val (cutV v0 0 k.length) w27 rfl (r_slice rfl (H0.below B31) Try.underlying22 (by kernel_rfl) 0 k.length (by first | omega | (simp; omega) | simp) (by first | omega | (simp; omega) | simp) (.inr ⟨_, _, rfl, rfl⟩) (.inl ⟨rfl, by simp⟩)) ?_
  have R34 : Bs w (cutV v0 0 k.length) (k.drop 0) := Bs.from H0 0 (by first | omega | (simp; omega) | simp)
  have L35 : (k.drop 0).length = k.length - 0 := by first | (simp; done) | (simp; omega)
  refine EL_ret [(cutV v0 0 k.length)] rfl Try.func34 rfl nm34 rfl (get_at (cutV v0 0 k.length) k 0 w27 (R34.below B31) (by omega)) ?_
  rintro _ w36 ⟨rfl, B37⟩
  have B38 : Below w.heap.size w w36 := below_full B31 B31.size B37
  have B39 : Below w12.heap.size w12 w36 := below_full B32 B32.size B37
  have B40 : Below w27.heap.size w27 w36 := B37
  refine EL_val (ptr b18 4) w36 rfl (r_indexA (i := 4) rfl rfl (by omega) (by omega) Try.underlying44 (by kernel_rfl)) ?_
  refine EL_storeA (j := 4) (u := .int .u32 (wd k 0)) rfl rfl (A28'.below B40) (by first | (simp; omega) | simp) rfl (by kernel_rfl) ?_
  intro w41 A42 K43 z44
  have A42' : Arr w41 b18 44 ((([1634760805, 857760878, 2036477234, 1797285236, wd k 0, 0, 0, 0, 0, 0, 0, 0, 0, 0, 0, 0] : List Int)).map (Value.int .u32)) := A42
  have B45 : Below w.heap.size w w41 := below_kept B38 K43 (Nat.le_trans B17.size (Nat.le_of_eq k20.symm)) (B38.size)
  have B46 : Below w12.heap.size w12 w41 := below_kept B39 K43 (Nat.le_trans (Nat.le_refl _) (Nat.le_of_eq k20.symm)) (B39.size)
  have A47 : Arr w41 b11 44 ((List.replicate 16 0).map (Value.int .u32)) := (A33.below B40).grew K43 (by simp; omega)
  refine EL_nil ?_
  refine inB_n ?_
  refine thn_n ?_
  refine EC_reg ?_
  refine EL_val (.int .i64 1) w41 rfl (r_asn (by kernel_rfl) (r_add rfl rfl)) ?_
  refine EL_val (.int .i64 1) w41 rfl (r_move rfl) ?_
  refine EL_nil ?_
  refine thn_n ?_
  refine U_step ?_
  refine EC_seq ?_
  refine EC_reg ?_
  refine EL_val (.bool true) w41 rfl (r_dec (by decide) (r_lss rfl rfl)) ?_
  refine EL_nil ?_
  refine thn_n ?_
  refine EC_seq ?_
  refine EC_cond_true rfl ?_
  refine EC_skip ?_
  refine thn_n ?_
  refine EC_seq ?_
  refine EC_block ?_
  refine EC_seq ?_
  refine EC_reg ?_
  refine EL_val (.int .i64 1) w41 rfl (r_move rfl) ?_
  refine EL_val (.int .i64 1) w41 rfl (r_assign rfl) ?_
  refine EL_nil ?_
  refine thn_n ?_
  refine EC_reg ?_
  refine EL_val (.int .i64 1) w41 rfl (r_move rfl) ?_
  refine EL_val (.int .i64 5) w41 rfl (r_asn (by kernel_rfl) (r_add rfl rfl)) ?_
  refine EL_val v0 w41 rfl (r_move rfl) ?_
  refine EL_val (.int .i64 1) w41 rfl (r_move rfl) ?_
  refine EL_val (.int .i64 4) w41 rfl (r_asn (by kernel_rfl) (r_mul rfl rfl)) ?_
  refine EL_val (cutV v0 4 k.length) w41 rfl (r_slice rfl (H0.below B45) Try.underlying22 (by kernel_rfl) 4 k.length (by first | omega | (simp; omega) | simp) (by first | omega | (simp; omega) | simp) (.inr ⟨_, _, rfl, rfl⟩) (.inl ⟨rfl, by simp⟩)) ?_
  have R48 : Bs w (cutV v0 4 k.length) (k.drop 4) := Bs.from H0 4 (by first | omega | (simp; omega) | simp)
  have L49 : (k.drop 4).length = k.length - 4 := by first | (simp; done) | (simp; omega)
  refine EL_ret [(cutV v0 4 k.length)] rfl Try.func34 rfl nm34 rfl (get_at (cutV v0 4 k.length) k 4 w41 (R48.below B45) (by omega)) ?_
  rintro _ w50 ⟨rfl, B51⟩
  have B52 : Below w.heap.size w w50 := below_full B45 B45.size B51
  have B53 : Below w12.heap.size w12 w50 := below_full B46 B46.size B51
  have B54 : Below w41.heap.size w41 w50 := B51
  refine EL_val (ptr b18 5) w50 rfl (r_indexA (i := 5) rfl rfl (by omega) (by omega) Try.underlying44 (by kernel_rfl)) ?_
  refine EL_storeA (j := 5) (u := .int .u32 (wd k 4)) rfl rfl (A42'.below B54) (by first | (simp; omega) | simp) rfl (by kernel_rfl) ?_
  intro w55 A56 K57 z58
  have A56' : Arr w55 b18 44 ((([1634760805, 857760878, 2036477234, 1797285236, wd k 0, wd k 4, 0, 0, 0, 0, 0, 0, 0, 0, 0, 0] : List Int)).map (Value.int .u32)) := A56
  have B59 : Below w.heap.size w w55 := below_kept B52 K57 (Nat.le_trans B17.size (Nat.le_of_eq k20.symm)) (B52.size)
  have B60 : Below w12.heap.size w12 w55 := below_kept B53 K57 (Nat.le_trans (Nat.le_refl _) (Nat.le_of_eq k20.symm)) (B53.size)
  have A61 : Arr w55 b11 44 ((List.replicate 16 0).map (Value.int .u32)) := (A47.below B54).grew K57 (by simp; omega)
  refine EL_nil ?_
  refine inB_n ?_
  refine thn_n ?_
  refine EC_reg ?_
  refine EL_val (.int .i64 2) w55 rfl (r_asn (by kernel_rfl) (r_add rfl rfl)) ?_
  refine EL_val (.int .i64 2) w55 rfl (r_move rfl) ?_
  refine EL_nil ?_
  refine thn_n ?_
  refine U_step ?_
  refine EC_seq ?_
  refine EC_reg ?_
  refine EL_val (.bool true) w55 rfl (r_dec (by decide) (r_lss rfl rfl)) ?_
  refine EL_nil ?_
  refine thn_n ?_
  refine EC_seq ?_
  refine EC_cond_true rfl ?_
  refine EC_skip ?_
  refine thn_n ?_
  refine EC_seq ?_
  refine EC_block ?_
  refine EC_seq ?_
  refine EC_reg ?_
  refine EL_val (.int .i64 2) w55 rfl (r_move rfl) ?_
  refine EL_val (.int .i64 2) w55 rfl (r_assign rfl) ?_
  refine EL_nil ?_
  refine thn_n ?_
  refine EC_reg ?_
  refine EL_val (.int .i64 2) w55 rfl (r_move rfl) ?_
  refine EL_val (.int .i64 6) w55 rfl (r_asn (by kernel_rfl) (r_add rfl rfl)) ?_
  refine EL_val v0 w55 rfl (r_move rfl) ?_
  refine EL_val (.int .i64 2) w55 rfl (r_move rfl) ?_
  refine EL_val (.int .i64 8) w55 rfl (r_asn (by kernel_rfl) (r_mul rfl rfl)) ?_
  refine EL_val (cutV v0 8 k.length) w55 rfl (r_slice rfl (H0.below B59) Try.underlying22 (by kernel_rfl) 8 k.length (by first | omega | (simp; omega) | simp) (by first | omega | (simp; omega) | simp) (.inr ⟨_, _, rfl, rfl⟩) (.inl ⟨rfl, by simp⟩)) ?_
  have R62 : Bs w (cutV v0 8 k.length) (k.drop 8) := Bs.from H0 8 (by first | omega | (simp; omega) | simp)
  have L63 : (k.drop 8).length = k.length - 8 := by first | (simp; done) | (simp; omega)
  refine EL_ret [(cutV v0 8 k.length)] rfl Try.func34 rfl nm34 rfl (get_at (cutV v0 8 k.length) k 8 w55 (R62.below B59) (by omega)) ?_
  rintro _ w64 ⟨rfl, B65⟩
  have B66 : Below w.heap.size w w64 := below_full B59 B59.size B65
  have B67 : Below w12.heap.size w12 w64 := below_full B60 B60.size B65
  have B68 : Below w55.heap.size w55 w64 := B65
  refine EL_val (ptr b18 6) w64 rfl (r_indexA (i := 6) rfl rfl (by omega) (by omega) Try.underlying44 (by kernel_rfl)) ?_
  refine EL_storeA (j := 6) (u := .int .u32 (wd k 8)) rfl rfl (A56'.below B68) (by first | (simp; omega) | simp) rfl (by kernel_rfl) ?_
  intro w69 A70 K71 z72
  have A70' : Arr w69 b18 44 ((([1634760805, 857760878, 2036477234, 1797285236, wd k 0, wd k 4, wd k 8, 0, 0, 0, 0, 0, 0, 0, 0, 0] : List Int)).map (Value.int .u32)) := A70
  have B73 : Below w.heap.size w w69 := below_kept B66 K71 (Nat.le_trans B17.size (Nat.le_of_eq k20.symm)) (B66.size)
  have B74 : Below w12.heap.size w12 w69 := below_kept B67 K71 (Nat.le_trans (Nat.le_refl _) (Nat.le_of_eq k20.symm)) (B67.size)
  have A75 : Arr w69 b11 44 ((List.replicate 16 0).map (Value.int .u32)) := (A61.below B68).grew K71 (by simp; omega)
  refine EL_nil ?_
  refine inB_n ?_
  refine thn_n ?_
  refine EC_reg ?_
  refine EL_val (.int .i64 3) w69 rfl (r_asn (by kernel_rfl) (r_add rfl rfl)) ?_
  refine EL_val (.int .i64 3) w69 rfl (r_move rfl) ?_
  refine EL_nil ?_
  refine thn_n ?_
  refine U_step ?_
  refine EC_seq ?_
  refine EC_reg ?_
  refine EL_val (.bool true) w69 rfl (r_dec (by decide) (r_lss rfl rfl)) ?_
  refine EL_nil ?_
  refine thn_n ?_
  refine EC_seq ?_
  refine EC_cond_true rfl ?_
  refine EC_skip ?_
  refine thn_n ?_
  refine EC_seq ?_
  refine EC_block ?_
  refine EC_seq ?_
  refine EC_reg ?_
  refine EL_val (.int .i64 3) w69 rfl (r_move rfl) ?_
  refine EL_val (.int .i64 3) w69 rfl (r_assign rfl) ?_
  refine EL_nil ?_
  refine thn_n ?_
  refine EC_reg ?_
  refine EL_val (.int .i64 3) w69 rfl (r_move rfl) ?_
  refine EL_val (.int .i64 7) w69 rfl (r_asn (by kernel_rfl) (r_add rfl rfl)) ?_
  refine EL_val v0 w69 rfl (r_move rfl) ?_
  refine EL_val (.int .i64 3) w69 rfl (r_move rfl) ?_
  refine EL_val (.int .i64 12) w69 rfl (r_asn (by kernel_rfl) (r_mul rfl rfl)) ?_
  refine EL_val (cutV v0 12 k.length) w69 rfl (r_slice rfl (H0.below B73) Try.underlying22 (by kernel_rfl) 12 k.length (by first | omega | (simp; omega) | simp) (by first | omega | (simp; omega) | simp) (.inr ⟨_, _, rfl, rfl⟩) (.inl ⟨rfl, by simp⟩)) ?_
  have R76 : Bs w (cutV v0 12 k.length) (k.drop 12) := Bs.from H0 12 (by first | omega | (simp; omega) | simp)
  have L77 : (k.drop 12).length = k.length - 12 := by first | (simp; done) | (simp; omega)
  refine EL_ret [(cutV v0 12 k.length)] rfl Try.func34 rfl nm34 rfl (get_at (cutV v0 12 k.length) k 12 w69 (R76.below B73) (by omega)) ?_
  rintro _ w78 ⟨rfl, B79⟩
  have B80 : Below w.heap.size w w78 := below_full B73 B73.size B79
  have B81 : Below w12.heap.size w12 w78 := below_full B74 B74.size B79
  have B82 : Below w69.heap.size w69 w78 := B79
  refine EL_val (ptr b18 7) w78 rfl (r_indexA (i := 7) rfl rfl (by omega) (by omega) Try.underlying44 (by kernel_rfl)) ?_
  refine EL_storeA (j := 7) (u := .int .u32 (wd k 12)) rfl rfl (A70'.below B82) (by first | (simp; omega) | simp) rfl (by kernel_rfl) ?_
  intro w83 A84 K85 z86
  have A84' : Arr w83 b18 44 ((([1634760805, 857760878, 2036477234, 1797285236, wd k 0, wd k 4, wd k 8, wd k 12, 0, 0, 0, 0, 0, 0, 0, 0] : List Int)).map (Value.int .u32)) := A84
  have B87 : Below w.heap.size w w83 := below_kept B80 K85 (Nat.le_trans B17.size (Nat.le_of_eq k20.symm)) (B80.size)
  have B88 : Below w12.heap.size w12 w83 := below_kept B81 K85 (Nat.le_trans (Nat.le_refl _) (Nat.le_of_eq k20.symm)) (B81.size)
  have A89 : Arr w83 b11 44 ((List.replicate 16 0).map (Value.int .u32)) := (A75.below B82).grew K85 (by simp; omega)
  refine EL_nil ?_
  refine inB_n ?_
  refine thn_n ?_
  refine EC_reg ?_
  refine EL_val (.int .i64 4) w83 rfl (r_asn (by kernel_rfl) (r_add rfl rfl)) ?_
  refine EL_val (.int .i64 4) w83 rfl (r_move rfl) ?_
  refine EL_nil ?_
  refine thn_n ?_
  refine U_step ?_
  refine EC_seq ?_
  refine EC_reg ?_
  refine EL_val (.bool true) w83 rfl (r_dec (by decide) (r_lss rfl rfl)) ?_
  refine EL_nil ?_
  refine thn_n ?_
  refine EC_seq ?_
  refine EC_cond_true rfl ?_
  refine EC_skip ?_
  refine thn_n ?_
  refine EC_seq ?_
  refine EC_block ?_
  refine EC_seq ?_
  refine EC_reg ?_
  refine EL_val (.int .i64 4) w83 rfl (r_move rfl) ?_
  refine EL_val (.int .i64 4) w83 rfl (r_assign rfl) ?_
  refine EL_nil ?_
  refine thn_n ?_
  refine EC_reg ?_
  refine EL_val (.int .i64 4) w83 rfl (r_move rfl) ?_
  refine EL_val (.int .i64 8) w83 rfl (r_asn (by kernel_rfl) (r_add rfl rfl)) ?_
  refine EL_val v0 w83 rfl (r_move rfl) ?_
  refine EL_val (.int .i64 4) w83 rfl (r_move rfl) ?_
  refine EL_val (.int .i64 16) w83 rfl (r_asn (by kernel_rfl) (r_mul rfl rfl)) ?_
  refine EL_val (cutV v0 16 k.length) w83 rfl (r_slice rfl (H0.below B87) Try.underlying22 (by kernel_rfl) 16 k.length (by first | omega | (simp; omega) | simp) (by first | omega | (simp; omega) | simp) (.inr ⟨_, _, rfl, rfl⟩) (.inl ⟨rfl, by simp⟩)) ?_
  have R90 : Bs w (cutV v0 16 k.length) (k.drop 16) := Bs.from H0 16 (by first | omega | (simp; omega) | simp)
  have L91 : (k.drop 16).length = k.length - 16 := by first | (simp; done) | (simp; omega)
  refine EL_ret [(cutV v0 16 k.length)] rfl Try.func34 rfl nm34 rfl (get_at (cutV v0 16 k.length) k 16 w83 (R90.below B87) (by omega)) ?_
  rintro _ w92 ⟨rfl, B93⟩
  have B94 : Below w.heap.size w w92 := below_full B87 B87.size B93
  have B95 : Below w12.heap.size w12 w92 := below_full B88 B88.size B93
  have B96 : Below w83.heap.size w83 w92 := B93
  refine EL_val (ptr b18 8) w92 rfl (r_indexA (i := 8) rfl rfl (by omega) (by omega) Try.underlying44 (by kernel_rfl)) ?_
  refine EL_storeA (j := 8) (u := .int .u32 (wd k 16)) rfl rfl (A84'.below B96) (by first | (simp; omega) | simp) rfl (by kernel_rfl) ?_
  intro w97 A98 K99 z100
  have A98' : Arr w97 b18 44 ((([1634760805, 857760878, 2036477234, 1797285236, wd k 0, wd k 4, wd k 8, wd k 12, wd k 16, 0, 0, 0, 0, 0, 0, 0] : List Int)).map (Value.int .u32)) := A98
  have B101 : Below w.heap.size w w97 := below_kept B94 K99 (Nat.le_trans B17.size (Nat.le_of_eq k20.symm)) (B94.size)
  have B102 : Below w12.heap.size w12 w97 := below_kept B95 K99 (Nat.le_trans (Nat.le_refl _) (Nat.le_of_eq k20.symm)) (B95.size)
  have A103 : Arr w97 b11 44 ((List.replicate 16 0).map (Value.int .u32)) := (A89.below B96).grew K99 (by simp; omega)
  refine EL_nil ?_
  refine inB_n ?_
  refine thn_n ?_
  refine EC_reg ?_
  refine EL_val (.int .i64 5) w97 rfl (r_asn (by kernel_rfl) (r_add rfl rfl)) ?_
  refine EL_val (.int .i64 5) w97 rfl (r_move rfl) ?_
  refine EL_nil ?_
  refine thn_n ?_
  refine U_step ?_
  refine EC_seq ?_
  refine EC_reg ?_
  refine EL_val (.bool true) w97 rfl (r_dec (by decide) (r_lss rfl rfl)) ?_
  refine EL_nil ?_
  refine thn_n ?_
  refine EC_seq ?_
  refine EC_cond_true rfl ?_
  refine EC_skip ?_
  refine thn_n ?_
  refine EC_seq ?_
  refine EC_block ?_
  refine EC_seq ?_
  refine EC_reg ?_
  refine EL_val (.int .i64 5) w97 rfl (r_move rfl) ?_
  refine EL_val (.int .i64 5) w97 rfl (r_assign rfl) ?_
  refine EL_nil ?_
  refine thn_n ?_
  refine EC_reg ?_
  refine EL_val (.int .i64 5) w97 rfl (r_move rfl) ?_
  refine EL_val (.int .i64 9) w97 rfl (r_asn (by kernel_rfl) (r_add rfl rfl)) ?_
  refine EL_val v0 w97 rfl (r_move rfl) ?_
  refine EL_val (.int .i64 5) w97 rfl (r_move rfl) ?_
  refine EL_val (.int .i64 20) w97 rfl (r_asn (by kernel_rfl) (r_mul rfl rfl)) ?_
  refine EL_val (cutV v0 20 k.length) w97 rfl (r_slice rfl (H0.below B101) Try.underlying22 (by kernel_rfl) 20 k.length (by first | omega | (simp; omega) | simp) (by first | omega | (simp; omega) | simp) (.inr ⟨_, _, rfl, rfl⟩) (.inl ⟨rfl, by simp⟩)) ?_
  have R104 : Bs w (cutV v0 20 k.length) (k.drop 20) := Bs.from H0 20 (by first | omega | (simp; omega) | simp)
  have L105 : (k.drop 20).length = k.length - 20 := by first | (simp; done) | (simp; omega)
  refine EL_ret [(cutV v0 20 k.length)] rfl Try.func34 rfl nm34 rfl (get_at (cutV v0 20 k.length) k 20 w97 (R104.below B101) (by omega)) ?_
  rintro _ w106 ⟨rfl, B107⟩
  have B108 : Below w.heap.size w w106 := below_full B101 B101.size B107
  have B109 : Below w12.heap.size w12 w106 := below_full B102 B102.size B107
  have B110 : Below w97.heap.size w97 w106 := B107
  refine EL_val (ptr b18 9) w106 rfl (r_indexA (i := 9) rfl rfl (by omega) (by omega) Try.underlying44 (by kernel_rfl)) ?_
  refine EL_storeA (j := 9) (u := .int .u32 (wd k 20)) rfl rfl (A98'.below B110) (by first | (simp; omega) | simp) rfl (by kernel_rfl) ?_
  intro w111 A112 K113 z114
  have A112' : Arr w111 b18 44 ((([1634760805, 857760878, 2036477234, 1797285236, wd k 0, wd k 4, wd k 8, wd k 12, wd k 16, wd k 20, 0, 0, 0, 0, 0, 0] : List Int)).map (Value.int .u32)) := A112
  have B115 : Below w.heap.size w w111 := below_kept B108 K113 (Nat.le_trans B17.size (Nat.le_of_eq k20.symm)) (B108.size)
  have B116 : Below w12.heap.size w12 w111 := below_kept B109 K113 (Nat.le_trans (Nat.le_refl _) (Nat.le_of_eq k20.symm)) (B109.size)
  have A117 : Arr w111 b11 44 ((List.replicate 16 0).map (Value.int .u32)) := (A103.below B110).grew K113 (by simp; omega)
  refine EL_nil ?_
  refine inB_n ?_
  refine thn_n ?_
  refine EC_reg ?_
  refine EL_val (.int .i64 6) w111 rfl (r_asn (by kernel_rfl) (r_add rfl rfl)) ?_
  refine EL_val (.int .i64 6) w111 rfl (r_move rfl) ?_
  refine EL_nil ?_
  refine thn_n ?_
  refine U_step ?_
  refine EC_seq ?_
  refine EC_reg ?_
  refine EL_val (.bool true) w111 rfl (r_dec (by decide) (r_lss rfl rfl)) ?_
  refine EL_nil ?_
  refine thn_n ?_
  refine EC_seq ?_
  refine EC_cond_true rfl ?_
  refine EC_skip ?_
  refine thn_n ?_
  refine EC_seq ?_
  refine EC_block ?_
  refine EC_seq ?_
  refine EC_reg ?_
  refine EL_val (.int .i64 6) w111 rfl (r_move rfl) ?_
  refine EL_val (.int .i64 6) w111 rfl (r_assign rfl) ?_
  refine EL_nil ?_
  refine thn_n ?_
  refine EC_reg ?_
  refine EL_val (.int .i64 6) w111 rfl (r_move rfl) ?_
  refine EL_val (.int .i64 10) w111 rfl (r_asn (by kernel_rfl) (r_add rfl rfl)) ?_
  refine EL_val v0 w111 rfl (r_move rfl) ?_
  refine EL_val (.int .i64 6) w111 rfl (r_move rfl) ?_
  refine EL_val (.int .i64 24) w111 rfl (r_asn (by kernel_rfl) (r_mul rfl rfl)) ?_
  refine EL_val (cutV v0 24 k.length) w111 rfl (r_slice rfl (H0.below B115) Try.underlying22 (by kernel_rfl) 24 k.length (by first | omega | (simp; omega) | simp) (by first | omega | (simp; omega) | simp) (.inr ⟨_, _, rfl, rfl⟩) (.inl ⟨rfl, by simp⟩)) ?_
  have R118 : Bs w (cutV v0 24 k.length) (k.drop 24) := Bs.from H0 24 (by first | omega | (simp; omega) | simp)
  have L119 : (k.drop 24).length = k.length - 24 := by first | (simp; done) | (simp; omega)
  refine EL_ret [(cutV v0 24 k.length)] rfl Try.func34 rfl nm34 rfl (get_at (cutV v0 24 k.length) k 24 w111 (R118.below B115) (by omega)) ?_
  rintro _ w120 ⟨rfl, B121⟩
  have B122 : Below w.heap.size w w120 := below_full B115 B115.size B121
  have B123 : Below w12.heap.size w12 w120 := below_full B116 B116.size B121
  have B124 : Below w111.heap.size w111 w120 := B121
  refine EL_val (ptr b18 10) w120 rfl (r_indexA (i := 10) rfl rfl (by omega) (by omega) Try.underlying44 (by kernel_rfl)) ?_
  refine EL_storeA (j := 10) (u := .int .u32 (wd k 24)) rfl rfl (A112'.below B124) (by first | (simp; omega) | simp) rfl (by kernel_rfl) ?_
  intro w125 A126 K127 z128
  have A126' : Arr w125 b18 44 ((([1634760805, 857760878, 2036477234, 1797285236, wd k 0, wd k 4, wd k 8, wd k 12, wd k 16, wd k 20, wd k 24, 0, 0, 0, 0, 0] : List Int)).map (Value.int .u32)) := A126
  have B129 : Below w.heap.size w w125 := below_kept B122 K127 (Nat.le_trans B17.size (Nat.le_of_eq k20.symm)) (B122.size)
  have B130 : Below w12.heap.size w12 w125 := below_kept B123 K127 (Nat.le_trans (Nat.le_refl _) (Nat.le_of_eq k20.symm)) (B123.size)
  have A131 : Arr w125 b11 44 ((List.replicate 16 0).map (Value.int .u32)) := (A117.below B124).grew K127 (by simp; omega)
  refine EL_nil ?_
  refine inB_n ?_
  refine thn_n ?_
  refine EC_reg ?_
  refine EL_val (.int .i64 7) w125 rfl (r_asn (by kernel_rfl) (r_add rfl rfl)) ?_
  refine EL_val (.int .i64 7) w125 rfl (r_move rfl) ?_
  refine EL_nil ?_
  refine thn_n ?_
  refine U_step ?_
  refine EC_seq ?_
  refine EC_reg ?_
  refine EL_val (.bool true) w125 rfl (r_dec (by decide) (r_lss rfl rfl)) ?_
  refine EL_nil ?_
  refine thn_n ?_
  refine EC_seq ?_
  refine EC_cond_true rfl ?_
  refine EC_skip ?_
  refine thn_n ?_
  refine EC_seq ?_
  refine EC_block ?_
  refine EC_seq ?_
  refine EC_reg ?_
  refine EL_val (.int .i64 7) w125 rfl (r_move rfl) ?_
  refine EL_val (.int .i64 7) w125 rfl (r_assign rfl) ?_
  refine EL_nil ?_
  refine thn_n ?_
  refine EC_reg ?_
  refine EL_val (.int .i64 7) w125 rfl (r_move rfl) ?_
  refine EL_val (.int .i64 11) w125 rfl (r_asn (by kernel_rfl) (r_add rfl rfl)) ?_
  refine EL_val v0 w125 rfl (r_move rfl) ?_
  refine EL_val (.int .i64 7) w125 rfl (r_move rfl) ?_
  refine EL_val (.int .i64 28) w125 rfl (r_asn (by kernel_rfl) (r_mul rfl rfl)) ?_
  refine EL_val (cutV v0 28 k.length) w125 rfl (r_slice rfl (H0.below B129) Try.underlying22 (by kernel_rfl) 28 k.length (by first | omega | (simp; omega) | simp) (by first | omega | (simp; omega) | simp) (.inr ⟨_, _, rfl, rfl⟩) (.inl ⟨rfl, by simp⟩)) ?_
  have R132 : Bs w (cutV v0 28 k.length) (k.drop 28) := Bs.from H0 28 (by first | omega | (simp; omega) | simp)
  have L133 : (k.drop 28).length = k.length - 28 := by first | (simp; done) | (simp; omega)
  refine EL_ret [(cutV v0 28 k.length)] rfl Try.func34 rfl nm34 rfl (get_at (cutV v0 28 k.length) k 28 w125 (R132.below B129) (by omega)) ?_
  rintro _ w134 ⟨rfl, B135⟩
  have B136 : Below w.heap.size w w134 := below_full B129 B129.size B135
  have B137 : Below w12.heap.size w12 w134 := below_full B130 B130.size B135
  have B138 : Below w125.heap.size w125 w134 := B135
  refine EL_val (ptr b18 11) w134 rfl (r_indexA (i := 11) rfl rfl (by omega) (by omega) Try.underlying44 (by kernel_rfl)) ?_
  refine EL_storeA (j := 11) (u := .int .u32 (wd k 28)) rfl rfl (A126'.below B138) (by first | (simp; omega) | simp) rfl (by kernel_rfl) ?_
  intro w139 A140 K141 z142
  have A140' : Arr w139 b18 44 ((([1634760805, 857760878, 2036477234, 1797285236, wd k 0, wd k 4, wd k 8, wd k 12, wd k 16, wd k 20, wd k 24, wd k 28, 0, 0, 0, 0] : List Int)).map (Value.int .u32)) := A140
  have B143 : Below w.heap.size w w139 := below_kept B136 K141 (Nat.le_trans B17.size (Nat.le_of_eq k20.symm)) (B136.size)
  have B144 : Below w12.heap.size w12 w139 := below_kept B137 K141 (Nat.le_trans (Nat.le_refl _) (Nat.le_of_eq k20.symm)) (B137.size)
  have A145 : Arr w139 b11 44 ((List.replicate 16 0).map (Value.int .u32)) := (A131.below B138).grew K141 (by simp; omega)
  refine EL_nil ?_
  refine inB_n ?_
  refine thn_n ?_
  refine EC_reg ?_
  refine EL_val (.int .i64 8) w139 rfl (r_asn (by kernel_rfl) (r_add rfl rfl)) ?_
  refine EL_val (.int .i64 8) w139 rfl (r_move rfl) ?_
  refine EL_nil ?_
  refine thn_n ?_
  refine U_step ?_
  refine EC_seq ?_
  refine EC_reg ?_
  refine EL_val (.bool false) w139 rfl (r_dec (by decide) (r_lss rfl rfl)) ?_
  refine EL_nil ?_
  refine thn_n ?_
  refine EC_seq ?_
  refine EC_cond_false rfl ?_
  refine EC_exit ?_
  refine thn_x ?_
  refine thn_x ?_
  refine inB_hit ?_
  refine thn_n ?_
  refine EC_seq ?_
  refine EC_reg ?_
  refine EL_val (.int .i64 c) w139 rfl (r_move rfl) ?_
  refine EL_val (.int .u32 c) w139 rfl (r_asn (by omega) (r_convw 3 42 rfl Try.underlying3 Try.underlying42)) ?_
  refine EL_val (ptr b18 12) w139 rfl (r_indexA (i := 12) rfl rfl (by omega) (by omega) Try.underlying44 (by kernel_rfl)) ?_
  refine EL_storeA (j := 12) (u := .int .u32 c) rfl rfl A140' (by first | (simp; omega) | simp) rfl (by kernel_rfl) ?_
  intro w146 A147 K148 z149
  have A147' : Arr w146 b18 44 ((([1634760805, 857760878, 2036477234, 1797285236, wd k 0, wd k 4, wd k 8, wd k 12, wd k 16, wd k 20, wd k 24, wd k 28, c, 0, 0, 0] : List Int)).map (Value.int .u32)) := A147
  have B150 : Below w.heap.size w w146 := below_kept B143 K148 (Nat.le_trans B17.size (Nat.le_of_eq k20.symm)) (B143.size)
  have B151 : Below w12.heap.size w12 w146 := below_kept B144 K148 (Nat.le_trans (Nat.le_refl _) (Nat.le_of_eq k20.symm)) (B144.size)
  have A152 : Arr w146 b11 44 ((List.replicate 16 0).map (Value.int .u32)) := A145.grew K148 (by simp; omega)
  refine EL_nil ?_
  refine thn_n ?_
  refine EC_seq ?_
  refine EC_seq ?_
  refine EC_reg ?_
  refine EL_val (.int .i64 0) w146 rfl (r_move rfl) ?_
  refine EL_nil ?_
  refine thn_n ?_
  refine EC_block ?_
  refine EC_for 4 ?_
  refine U_step ?_
  refine EC_seq ?_
  refine EC_reg ?_
  refine EL_val (.bool true) w146 rfl (r_dec (by decide) (r_lss rfl rfl)) ?_
  refine EL_nil ?_
  refine thn_n ?_
  refine EC_seq ?_
  refine EC_cond_true rfl ?_
  refine EC_skip ?_
  refine thn_n ?_
  refine EC_seq ?_
  refine EC_block ?_
  refine EC_seq ?_
  refine EC_reg ?_
  refine EL_val (.int .i64 0) w146 rfl (r_move rfl) ?_
  refine EL_val (.int .i64 0) w146 rfl (r_assign rfl) ?_
  refine EL_nil ?_
  refine thn_n ?_
  refine EC_reg ?_
  refine EL_val (.int .i64 0) w146 rfl (r_move rfl) ?_
  refine EL_val (.int .i64 13) w146 rfl (r_asn (by kernel_rfl) (r_add rfl rfl)) ?_
  refine EL_val v1 w146 rfl (r_move rfl) ?_
  refine EL_val (.int .i64 0) w146 rfl (r_move rfl) ?_
  refine EL_val (.int .i64 0) w146 rfl (r_asn (by kernel_rfl) (r_mul rfl rfl)) ?_
  refine EL_val (cutV v1 0 n.length) w146 rfl (r_slice rfl (H1.below B150) Try.underlying22 (by kernel_rfl) 0 n.length (by first | omega | (simp; omega) | simp) (by first | omega | (simp; omega) | simp) (.inr ⟨_, _, rfl, rfl⟩) (.inl ⟨rfl, by simp⟩)) ?_
  have R153 : Bs w (cutV v1 0 n.length) (n.drop 0) := Bs.from H1 0 (by first | omega | (simp; omega) | simp)
  have L154 : (n.drop 0).length = n.length - 0 := by first | (simp; done) | (simp; omega)
  refine EL_ret [(cutV v1 0 n.length)] rfl Try.func34 rfl nm34 rfl (get_at (cutV v1 0 n.length) n 0 w146 (R153.below B150) (by omega)) ?_
  rintro _ w155 ⟨rfl, B156⟩
  have B157 : Below w.heap.size w w155 := below_full B150 B150.size B156
  have B158 : Below w12.heap.size w12 w155 := below_full B151 B151.size B156
  have B159 : Below w146.heap.size w146 w155 := B156
  refine EL_val (ptr b18 13) w155 rfl (r_indexA (i := 13) rfl rfl (by omega) (by omega) Try.underlying44 (by kernel_rfl)) ?_
  refine EL_storeA (j := 13) (u := .int .u32 (wd n 0)) rfl rfl (A147'.below B159) (by first | (simp; omega) | simp) rfl (by kernel_rfl) ?_
  intro w160 A161 K162 z163
  have A161' : Arr w160 b18 44 ((([1634760805, 857760878, 2036477234, 1797285236, wd k 0, wd k 4, wd k 8, wd k 12, wd k 16, wd k 20, wd k 24, wd k 28, c, wd n 0, 0, 0] : List Int)).map (Value.int .u32)) := A161
  have B164 : Below w.heap.size w w160 := below_kept B157 K162 (Nat.le_trans B17.size (Nat.le_of_eq k20.symm)) (B157.size)
  have B165 : Below w12.heap.size w12 w160 := below_kept B158 K162 (Nat.le_trans (Nat.le_refl _) (Nat.le_of_eq k20.symm)) (B158.size)
  have A166 : Arr w160 b11 44 ((List.replicate 16 0).map (Value.int .u32)) := (A152.below B159).grew K162 (by simp; omega)
  refine EL_nil ?_
  refine inB_n ?_
  refine thn_n ?_
  refine EC_reg ?_
  refine EL_val (.int .i64 1) w160 rfl (r_asn (by kernel_rfl) (r_add rfl rfl)) ?_
  refine EL_val (.int .i64 1) w160 rfl (r_move rfl) ?_
  refine EL_nil ?_
  refine thn_n ?_
  refine U_step ?_
  refine EC_seq ?_
  refine EC_reg ?_
  refine EL_val (.bool true) w160 rfl (r_dec (by decide) (r_lss rfl rfl)) ?_
  refine EL_nil ?_
  refine thn_n ?_
  refine EC_seq ?_
  refine EC_cond_true rfl ?_
  refine EC_skip ?_
  refine thn_n ?_
  refine EC_seq ?_
  refine EC_block ?_
  refine EC_seq ?_
  refine EC_reg ?_
  refine EL_val (.int .i64 1) w160 rfl (r_move rfl) ?_
  refine EL_val (.int .i64 1) w160 rfl (r_assign rfl) ?_
  refine EL_nil ?_
  refine thn_n ?_
  refine EC_reg ?_
  refine EL_val (.int .i64 1) w160 rfl (r_move rfl) ?_
  refine EL_val (.int .i64 14) w160 rfl (r_asn (by kernel_rfl) (r_add rfl rfl)) ?_
  refine EL_val v1 w160 rfl (r_move rfl) ?_
  refine EL_val (.int .i64 1) w160 rfl (r_move rfl) ?_
  refine EL_val (.int .i64 4) w160 rfl (r_asn (by kernel_rfl) (r_mul rfl rfl)) ?_
  refine EL_val (cutV v1 4 n.length) w160 rfl (r_slice rfl (H1.below B164) Try.underlying22 (by kernel_rfl) 4 n.length (by first | omega | (simp; omega) | simp) (by first | omega | (simp; omega) | simp) (.inr ⟨_, _, rfl, rfl⟩) (.inl ⟨rfl, by simp⟩)) ?_
  have R167 : Bs w (cutV v1 4 n.length) (n.drop 4) := Bs.from H1 4 (by first | omega | (simp; omega) | simp)
  have L168 : (n.drop 4).length = n.length - 4 := by first | (simp; done) | (simp; omega)
  refine EL_ret [(cutV v1 4 n.length)] rfl Try.func34 rfl nm34 rfl (get_at (cutV v1 4 n.length) n 4 w160 (R167.below B164) (by omega)) ?_
  rintro _ w169 ⟨rfl, B170⟩
  have B171 : Below w.heap.size w w169 := below_full B164 B164.size B170
  have B172 : Below w12.heap.size w12 w169 := below_full B165 B165.size B170
  have B173 : Below w160.heap.size w160 w169 := B170
  refine EL_val (ptr b18 14) w169 rfl (r_indexA (i := 14) rfl rfl (by omega) (by omega) Try.underlying44 (by kernel_rfl)) ?_
  refine EL_storeA (j := 14) (u := .int .u32 (wd n 4)) rfl rfl (A161'.below B173) (by first | (simp; omega) | simp) rfl (by kernel_rfl) ?_
  intro w174 A175 K176 z177
  have A175' : Arr w174 b18 44 ((([1634760805, 857760878, 2036477234, 1797285236, wd k 0, wd k 4, wd k 8, wd k 12, wd k 16, wd k 20, wd k 24, wd k 28, c, wd n 0, wd n 4, 0] : List Int)).map (Value.int .u32)) := A175
  have B178 : Below w.heap.size w w174 := below_kept B171 K176 (Nat.le_trans B17.size (Nat.le_of_eq k20.symm)) (B171.size)
  have B179 : Below w12.heap.size w12 w174 := below_kept B172 K176 (Nat.le_trans (Nat.le_refl _) (Nat.le_of_eq k20.symm)) (B172.size)
  have A180 : Arr w174 b11 44 ((List.replicate 16 0).map (Value.int .u32)) := (A166.below B173).grew K176 (by simp; omega)
  refine EL_nil ?_
  refine inB_n ?_
  refine thn_n ?_
  refine EC_reg ?_
  refine EL_val (.int .i64 2) w174 rfl (r_asn (by kernel_rfl) (r_add rfl rfl)) ?_
  refine EL_val (.int .i64 2) w174 rfl (r_move rfl) ?_
  refine EL_nil ?_
  refine thn_n ?_
  refine U_step ?_
  refine EC_seq ?_
  refine EC_reg ?_
  refine EL_val (.bool true) w174 rfl (r_dec (by decide) (r_lss rfl rfl)) ?_
  refine EL_nil ?_
  refine thn_n ?_
  refine EC_seq ?_
  refine EC_cond_true rfl ?_
  refine EC_skip ?_
  refine thn_n ?_
  refine EC_seq ?_
  refine EC_block ?_
  refine EC_seq ?_
  refine EC_reg ?_
  refine EL_val (.int .i64 2) w174 rfl (r_move rfl) ?_
  refine EL_val (.int .i64 2) w174 rfl (r_assign rfl) ?_
  refine EL_nil ?_
  refine thn_n ?_
  refine EC_reg ?_
  refine EL_val (.int .i64 2) w174 rfl (r_move rfl) ?_
  refine EL_val (.int .i64 15) w174 rfl (r_asn (by kernel_rfl) (r_add rfl rfl)) ?_
  refine EL_val v1 w174 rfl (r_move rfl) ?_
  refine EL_val (.int .i64 2) w174 rfl (r_move rfl) ?_
  refine EL_val (.int .i64 8) w174 rfl (r_asn (by kernel_rfl) (r_mul rfl rfl)) ?_
  refine EL_val (cutV v1 8 n.length) w174 rfl (r_slice rfl (H1.below B178) Try.underlying22 (by kernel_rfl) 8 n.length (by first | omega | (simp; omega) | simp) (by first | omega | (simp; omega) | simp) (.inr ⟨_, _, rfl, rfl⟩) (.inl ⟨rfl, by simp⟩)) ?_
  have R181 : Bs w (cutV v1 8 n.length) (n.drop 8) := Bs.from H1 8 (by first | omega | (simp; omega) | simp)
  have L182 : (n.drop 8).length = n.length - 8 := by first | (simp; done) | (simp; omega)
  refine EL_ret [(cutV v1 8 n.length)] rfl Try.func34 rfl nm34 rfl (get_at (cutV v1 8 n.length) n 8 w174 (R181.below B178) (by omega)) ?_
  rintro _ w183 ⟨rfl, B184⟩
  have B185 : Below w.heap.size w w183 := below_full B178 B178.size B184
  have B186 : Below w12.heap.size w12 w183 := below_full B179 B179.size B184
  have B187 : Below w174.heap.size w174 w183 := B184
  refine EL_val (ptr b18 15) w183 rfl (r_indexA (i := 15) rfl rfl (by omega) (by omega) Try.underlying44 (by kernel_rfl)) ?_
  refine EL_storeA (j := 15) (u := .int .u32 (wd n 8)) rfl rfl (A175'.below B187) (by first | (simp; omega) | simp) rfl (by kernel_rfl) ?_
  intro w188 A189 K190 z191
  have A189' : Arr w188 b18 44 ((([1634760805, 857760878, 2036477234, 1797285236, wd k 0, wd k 4, wd k 8, wd k 12, wd k 16, wd k 20, wd k 24, wd k 28, c, wd n 0, wd n 4, wd n 8] : List Int)).map (Value.int .u32)) := A189
  have B192 : Below w.heap.size w w188 := below_kept B185 K190 (Nat.le_trans B17.size (Nat.le_of_eq k20.symm)) (B185.size)
  have B193 : Below w12.heap.size w12 w188 := below_kept B186 K190 (Nat.le_trans (Nat.le_refl _) (Nat.le_of_eq k20.symm)) (B186.size)
  have A194 : Arr w188 b11 44 ((List.replicate 16 0).map (Value.int .u32)) := (A180.below B187).grew K190 (by simp; omega)
  refine EL_nil ?_
  refine inB_n ?_
  refine thn_n ?_
  refine EC_reg ?_
  refine EL_val (.int .i64 3) w188 rfl (r_asn (by kernel_rfl) (r_add rfl rfl)) ?_
  refine EL_val (.int .i64 3) w188 rfl (r_move rfl) ?_
  refine EL_nil ?_
  refine thn_n ?_
  refine U_step ?_
  refine EC_seq ?_
  refine EC_reg ?_
  refine EL_val (.bool false) w188 rfl (r_dec (by decide) (r_lss rfl rfl)) ?_
  refine EL_nil ?_
  refine thn_n ?_
  refine EC_seq ?_
  refine EC_cond_false rfl ?_
  refine EC_exit ?_
  refine thn_x ?_
  refine thn_x ?_
  refine inB_hit ?_
  refine thn_n ?_
  refine EC_seq ?_
  refine EC_reg ?_
  refine EL_val (.agg (([1634760805, 857760878, 2036477234, 1797285236, wd k 0, wd k 4, wd k 8, wd k 12, wd k 16, wd k 20, wd k 24, wd k 28, c, wd n 0, wd n 4, wd n 8] : List Int).map (Value.int .u32)).toArray) w188 rfl (r_loadAll rfl A189' Try.underlying44 rfl (Eq.trans (show _ = some 16 from by kernel_rfl) (congrArg some (by first | (simp; done) | (simp; omega) | rfl)))) ?_
  refine EL_storeAll (v := .agg (([1634760805, 857760878, 2036477234, 1797285236, wd k 0, wd k 4, wd k 8, wd k 12, wd k 16, wd k 20, wd k 24, wd k 28, c, wd n 0, wd n 4, wd n 8] : List Int).map (Value.int .u32)).toArray) (cs' := (([1634760805, 857760878, 2036477234, 1797285236, wd k 0, wd k 4, wd k 8, wd k 12, wd k 16, wd k 20, wd k 24, wd k 28, c, wd n 0, wd n 4, wd n 8] : List Int).map (Value.int .u32)).toArray) rfl rfl rfl A194 (by first | rfl | (simp; done) | (simp; omega)) (Eq.trans (show _ = some 16 from by kernel_rfl) (congrArg some (by first | (simp; done) | (simp; omega) | rfl))) (ints_oneCell _ _) ?_
  intro w195 A196 K197 z198
  have A196' : Arr w195 b11 44 (([1634760805, 857760878, 2036477234, 1797285236, wd k 0, wd k 4, wd k 8, wd k 12, wd k 16, wd k 20, wd k 24, wd k 28, c, wd n 0, wd n 4, wd n 8] : List Int).map (Value.int .u32)) := by simpa using A196
  have B199 : Below w.heap.size w w195 := below_kept B192 K197 (Nat.le_trans (Nat.le_refl _) (Nat.le_of_eq k13.symm)) (B192.size)
  have A200 : Arr w195 b18 44 (([1634760805, 857760878, 2036477234, 1797285236, wd k 0, wd k 4, wd k 8, wd k 12, wd k 16, wd k 20, wd k 24, wd k 28, c, wd n 0, wd n 4, wd n 8] : List Int).map (Value.int .u32)) := A189'.grew K197 (by simp; omega)
  refine EL_nil ?_
  refine thn_n ?_
  refine EC_ret ?_
  refine fin1c Try.results22 (show _ = ptr b11 from rfl) A196' Try.underlying44 rfl (by kernel_rfl) ⟨_, rfl, ?_⟩
  exact ⟨rfl, B199⟩

set_option maxHeartbeats 2000000 in
theorem block_c (l : List Int) (hok : OK l) (w : World) : Ret Try.prog 23 [.agg (l.map (Value.int .u32)).toArray] w fun v w' => w'.ownsRow w.heap.size 5 1 v (blk l).length ((blk l).map byt) ∧ Below w.heap.size w w' := by
  have hl0 := hok.1
  refine ret_E Try.func23 rfl Try.ntmps23 (by simp) ?_
  refine EC_seq ?_
  refine EC_reg ?_
  refine EL_box (l.map (Value.int .u32)) rfl rfl rfl ?_
  intro b11 w12 k13 A14 B15 z16
  have B17 : Below w.heap.size w w12 := B15
  have A14' : Arr w12 b11 44 (l.map (Value.int .u32)) := A14
  refine EL_val (.slice none 0 0) w12 rfl (r_assign rfl) ?_
  refine EL_nil ?_
  refine thn_n ?_
  refine EC_scope (fun l' m' E' w' => (l' = 0 ∧ ∃ n : Int, ∃ q : Nat, m' = (10 - n).toNat ∧ E' 4 = .int .i64 n ∧ E' 3 = ptr q ∧ E' 1 = ptr b11 ∧ (0 ≤ n ∧ n ≤ 9) ∧ (w12.heap.size ≤ q) ∧ Below w.heap.size w w' ∧ Below w12.heap.size w12 w' ∧ Arr w' q 44 ((rnd l n.toNat).map (Value.int .u32)))) 20 ?_ ?_
  · refine EC_seq ?_
    refine EC_reg ?_
    refine EL_val (.agg (l.map (Value.int .u32)).toArray) w12 rfl (r_loadAll rfl A14' Try.underlying44 rfl (Eq.trans (show _ = some 16 from by kernel_rfl) (congrArg some (by first | (simp; done) | (simp; omega) | rfl)))) ?_
    refine EL_alloc (z := .agg #[.int .u32 0, .int .u32 0, .int .u32 0, .int .u32 0, .int .u32 0, .int .u32 0, .int .u32 0, .int .u32 0, .int .u32 0, .int .u32 0, .int .u32 0, .int .u32 0, .int .u32 0, .int .u32 0, .int .u32 0, .int .u32 0]) (List.replicate 16 (.int .u32 0)) rfl (by kernel_rfl) rfl ?_
    intro b18 w19 k20 A21 B22 z23
    have ne24 : b11 < b18 := by have := (A14').lt; omega
    have B25 : Below w.heap.size w w19 := below_full B17 B17.size B22
    have B26 : Below w12.heap.size w12 w19 := B22
    have A21' : Arr w19 b18 44 ((List.replicate 16 0).map (Value.int .u32)) := A21
    refine EL_storeAll (v := .agg (l.map (Value.int .u32)).toArray) (cs' := (l.map (Value.int .u32)).toArray) rfl rfl rfl A21' (by first | rfl | (simp; done) | (simp; omega)) (Eq.trans (show _ = some 16 from by kernel_rfl) (congrArg some (by first | (simp; done) | (simp; omega) | rfl))) (ints_oneCell _ _) ?_
    intro w27 A28 K29 z30
    have A28' : Arr w27 b18 44 (l.map (Value.int .u32)) := by simpa using A28
    have B31 : Below w.heap.size w w27 := below_kept B25 K29 (Nat.le_trans B17.size (Nat.le_of_eq k20.symm)) (B25.size)
    have B32 : Below w12.heap.size w12 w27 := below_kept B26 K29 (Nat.le_trans (Nat.le_refl _) (Nat.le_of_eq k20.symm)) (B26.size)
    have A33 : Arr w27 b11 44 (l.map (Value.int .u32)) := (A14'.below B26).grew K29 (by simp; omega)
    refine EL_val (.int .i64 0) w27 rfl (r_assign rfl) ?_
    refine EL_nil ?_
    refine thn_n ?_
    refine EC_seq ?_
    refine EC_label ?_
    refine thn_n ?_
    refine EC_seq ?_
    refine EC_seq ?_
    refine EC_reg ?_
    refine EL_val (.int .i64 0) w27 rfl (r_move rfl) ?_
    refine EL_nil ?_
    refine thn_n ?_
    refine EC_block ?_
    refine EC_for 5 ?_
    refine U_step ?_
    refine EC_seq ?_
    refine EC_reg ?_
    refine EL_val (.bool true) w27 rfl (r_dec (by decide) (r_lss rfl rfl)) ?_
    refine EL_nil ?_
    refine thn_n ?_
    refine EC_seq ?_
    refine EC_cond_true rfl ?_
    refine EC_skip ?_
    refine thn_n ?_
    refine EC_seq ?_
    refine EC_block ?_
    refine EC_seq ?_
    refine EC_reg ?_
    refine EL_val (.int .i64 0) w27 rfl (r_move rfl) ?_
    refine EL_val (.int .i64 0) w27 rfl (r_assign rfl) ?_
    refine EL_nil ?_
    refine thn_n ?_
    refine EC_reg ?_
    refine EL_val (.int .i64 0) w27 rfl (r_move rfl) ?_
    refine EL_val (.int .i64 0) w27 rfl (r_move rfl) ?_
    refine EL_val (.int .i64 4) w27 rfl (r_asn (by kernel_rfl) (r_add rfl rfl)) ?_
    refine EL_val (.int .i64 0) w27 rfl (r_move rfl) ?_
    refine EL_val (.int .i64 8) w27 rfl (r_asn (by kernel_rfl) (r_add rfl rfl)) ?_
    refine EL_val (.int .i64 0) w27 rfl (r_move rfl) ?_
    refine EL_val (.int .i64 12) w27 rfl (r_asn (by kernel_rfl) (r_add rfl rfl)) ?_
    obtain ⟨t36, ht36⟩ : ∃ z, z = qr l 0 4 8 12 := ⟨_, rfl⟩
    have okt36 : OK t36 := by rw [ht36]; exact hok.qr _ _ _ _
    have lnt36 := okt36.1
    refine EL_ret [ptr b18, .int .i64 0, .int .i64 4, .int .i64 8, .int .i64 12] rfl Try.func35 rfl nm35 rfl (quarter_c b18 l hok 0 4 8 12 (by omega) (by omega) (by omega) (by omega) w27 A28') ?_
    rintro _ w37 ⟨rfl, A34, K35⟩
    replace A34 : Arr w37 b18 44 (t36.map (Value.int .u32)) := by rw [ht36]; exact A34
    have B38 : Below w.heap.size w w37 := below_kept B31 K35 (Nat.le_trans B17.size (Nat.le_of_eq k20.symm)) (B31.size)
    have B39 : Below w12.heap.size w12 w37 := below_kept B32 K35 (Nat.le_trans (Nat.le_refl _) (Nat.le_of_eq k20.symm)) (B32.size)
    have A40 : Arr w37 b11 44 (l.map (Value.int .u32)) := A33.grew K35 (by simp; omega)
    refine EL_nil ?_
    refine inB_n ?_
    refine thn_n ?_
    refine EC_reg ?_
    refine EL_val (.int .i64 1) w37 rfl (r_asn (by kernel_rfl) (r_add rfl rfl)) ?_
    refine EL_val (.int .i64 1) w37 rfl (r_move rfl) ?_
    refine EL_nil ?_
    refine thn_n ?_
    refine U_step ?_
    refine EC_seq ?_
    refine EC_reg ?_
    refine EL_val (.bool true) w37 rfl (r_dec (by decide) (r_lss rfl rfl)) ?_
    refine EL_nil ?_
    refine thn_n ?_
    refine EC_seq ?_
    refine EC_cond_true rfl ?_
    refine EC_skip ?_
    refine thn_n ?_
    refine EC_seq ?_
    refine EC_block ?_
    refine EC_seq ?_
    refine EC_reg ?_
    refine EL_val (.int .i64 1) w37 rfl (r_move rfl) ?_
    refine EL_val (.int .i64 1) w37 rfl (r_assign rfl) ?_
    refine EL_nil ?_
    refine thn_n ?_
    refine EC_reg ?_
    refine EL_val (.int .i64 1) w37 rfl (r_move rfl) ?_
    refine EL_val (.int .i64 1) w37 rfl (r_move rfl) ?_
    refine EL_val (.int .i64 5) w37 rfl (r_asn (by kernel_rfl) (r_add rfl rfl)) ?_
    refine EL_val (.int .i64 1) w37 rfl (r_move rfl) ?_
    refine EL_val (.int .i64 9) w37 rfl (r_asn (by kernel_rfl) (r_add rfl rfl)) ?_
    refine EL_val (.int .i64 1) w37 rfl (r_move rfl) ?_
    refine EL_val (.int .i64 13) w37 rfl (r_asn (by kernel_rfl) (r_add rfl rfl)) ?_
    obtain ⟨t43, ht43⟩ : ∃ z, z = qr t36 1 5 9 13 := ⟨_, rfl⟩
    have okt43 : OK t43 := by rw [ht43]; exact okt36.qr _ _ _ _
    have lnt43 := okt43.1
    refine EL_ret [ptr b18, .int .i64 1, .int .i64 5, .int .i64 9, .int .i64 13] rfl Try.func35 rfl nm35 rfl (quarter_c b18 t36 okt36 1 5 9 13 (by omega) (by omega) (by omega) (by omega) w37 A34) ?_
    rintro _ w44 ⟨rfl, A41, K42⟩
    replace A41 : Arr w44 b18 44 (t43.map (Value.int .u32)) := by rw [ht43]; exact A41
    have B45 : Below w.heap.size w w44 := below_kept B38 K42 (Nat.le_trans B17.size (Nat.le_of_eq k20.symm)) (B38.size)
    have B46 : Below w12.heap.size w12 w44 := below_kept B39 K42 (Nat.le_trans (Nat.le_refl _) (Nat.le_of_eq k20.symm)) (B39.size)
    have A47 : Arr w44 b11 44 (l.map (Value.int .u32)) := A40.grew K42 (by simp; omega)
    refine EL_nil ?_
    refine inB_n ?_
    refine thn_n ?_
    refine EC_reg ?_
    refine EL_val (.int .i64 2) w44 rfl (r_asn (by kernel_rfl) (r_add rfl rfl)) ?_
    refine EL_val (.int .i64 2) w44 rfl (r_move rfl) ?_
    refine EL_nil ?_
    refine thn_n ?_
    refine U_step ?_
    refine EC_seq ?_
    refine EC_reg ?_
    refine EL_val (.bool true) w44 rfl (r_dec (by decide) (r_lss rfl rfl)) ?_
    refine EL_nil ?_
    refine thn_n ?_
    refine EC_seq ?_
    refine EC_cond_true rfl ?_
    refine EC_skip ?_
    refine thn_n ?_
    refine EC_seq ?_
    refine EC_block ?_
    refine EC_seq ?_
    refine EC_reg ?_
    refine EL_val (.int .i64 2) w44 rfl (r_move rfl) ?_
    refine EL_val (.int .i64 2) w44 rfl (r_assign rfl) ?_
    refine EL_nil ?_
    refine thn_n ?_
    refine EC_reg ?_
    refine EL_val (.int .i64 2) w44 rfl (r_move rfl) ?_
    refine EL_val (.int .i64 2) w44 rfl (r_move rfl) ?_
    refine EL_val (.int .i64 6) w44 rfl (r_asn (by kernel_rfl) (r_add rfl rfl)) ?_
    refine EL_val (.int .i64 2) w44 rfl (r_move rfl) ?_
    refine EL_val (.int .i64 10) w44 rfl (r_asn (by kernel_rfl) (r_add rfl rfl)) ?_
    refine EL_val (.int .i64 2) w44 rfl (r_move rfl) ?_
    refine EL_val (.int .i64 14) w44 rfl (r_asn (by kernel_rfl) (r_add rfl rfl)) ?_
    obtain ⟨t50, ht50⟩ : ∃ z, z = qr t43 2 6 10 14 := ⟨_, rfl⟩
    have okt50 : OK t50 := by rw [ht50]; exact okt43.qr _ _ _ _
    have lnt50 := okt50.1
    refine EL_ret [ptr b18, .int .i64 2, .int .i64 6, .int .i64 10, .int .i64 14] rfl Try.func35 rfl nm35 rfl (quarter_c b18 t43 okt43 2 6 10 14 (by omega) (by omega) (by omega) (by omega) w44 A41) ?_
    rintro _ w51 ⟨rfl, A48, K49⟩
    replace A48 : Arr w51 b18 44 (t50.map (Value.int .u32)) := by rw [ht50]; exact A48
    have B52 : Below w.heap.size w w51 := below_kept B45 K49 (Nat.le_trans B17.size (Nat.le_of_eq k20.symm)) (B45.size)
    have B53 : Below w12.heap.size w12 w51 := below_kept B46 K49 (Nat.le_trans (Nat.le_refl _) (Nat.le_of_eq k20.symm)) (B46.size)
    have A54 : Arr w51 b11 44 (l.map (Value.int .u32)) := A47.grew K49 (by simp; omega)
    refine EL_nil ?_
    refine inB_n ?_
    refine thn_n ?_
    refine EC_reg ?_
    refine EL_val (.int .i64 3) w51 rfl (r_asn (by kernel_rfl) (r_add rfl rfl)) ?_
    refine EL_val (.int .i64 3) w51 rfl (r_move rfl) ?_
    refine EL_nil ?_
    refine thn_n ?_
    refine U_step ?_
    refine EC_seq ?_
    refine EC_reg ?_
    refine EL_val (.bool true) w51 rfl (r_dec (by decide) (r_lss rfl rfl)) ?_
    refine EL_nil ?_
    refine thn_n ?_
    refine EC_seq ?_
    refine EC_cond_true rfl ?_
    refine EC_skip ?_
    refine thn_n ?_
    refine EC_seq ?_
    refine EC_block ?_
    refine EC_seq ?_
    refine EC_reg ?_
    refine EL_val (.int .i64 3) w51 rfl (r_move rfl) ?_
    refine EL_val (.int .i64 3) w51 rfl (r_assign rfl) ?_
    refine EL_nil ?_
    refine thn_n ?_
    refine EC_reg ?_
    refine EL_val (.int .i64 3) w51 rfl (r_move rfl) ?_
    refine EL_val (.int .i64 3) w51 rfl (r_move rfl) ?_
    refine EL_val (.int .i64 7) w51 rfl (r_asn (by kernel_rfl) (r_add rfl rfl)) ?_
    refine EL_val (.int .i64 3) w51 rfl (r_move rfl) ?_
    refine EL_val (.int .i64 11) w51 rfl (r_asn (by kernel_rfl) (r_add rfl rfl)) ?_
    refine EL_val (.int .i64 3) w51 rfl (r_move rfl) ?_
    refine EL_val (.int .i64 15) w51 rfl (r_asn (by kernel_rfl) (r_add rfl rfl)) ?_
    obtain ⟨t57, ht57⟩ : ∃ z, z = qr t50 3 7 11 15 := ⟨_, rfl⟩
    have okt57 : OK t57 := by rw [ht57]; exact okt50.qr _ _ _ _
    have lnt57 := okt57.1
    refine EL_ret [ptr b18, .int .i64 3, .int .i64 7, .int .i64 11, .int .i64 15] rfl Try.func35 rfl nm35 rfl (quarter_c b18 t50 okt50 3 7 11 15 (by omega) (by omega) (by omega) (by omega) w51 A48) ?_
    rintro _ w58 ⟨rfl, A55, K56⟩
    replace A55 : Arr w58 b18 44 (t57.map (Value.int .u32)) := by rw [ht57]; exact A55
    have B59 : Below w.heap.size w w58 := below_kept B52 K56 (Nat.le_trans B17.size (Nat.le_of_eq k20.symm)) (B52.size)
    have B60 : Below w12.heap.size w12 w58 := below_kept B53 K56 (Nat.le_trans (Nat.le_refl _) (Nat.le_of_eq k20.symm)) (B53.size)
    have A61 : Arr w58 b11 44 (l.map (Value.int .u32)) := A54.grew K56 (by simp; omega)
    refine EL_nil ?_
    refine inB_n ?_
    refine thn_n ?_
    refine EC_reg ?_
    refine EL_val (.int .i64 4) w58 rfl (r_asn (by kernel_rfl) (r_add rfl rfl)) ?_
    refine EL_val (.int .i64 4) w58 rfl (r_move rfl) ?_
    refine EL_nil ?_
    refine thn_n ?_
    refine U_step ?_
    refine EC_seq ?_
    refine EC_reg ?_
    refine EL_val (.bool false) w58 rfl (r_dec (by decide) (r_lss rfl rfl)) ?_
    refine EL_nil ?_
    refine thn_n ?_
    refine EC_seq ?_
    refine EC_cond_false rfl ?_
    refine EC_exit ?_
    refine thn_x ?_
    refine thn_x ?_
    refine inB_hit ?_
    refine thn_n ?_
    refine EC_seq ?_
    refine EC_seq ?_
    refine EC_reg ?_
    refine EL_val (.int .i64 0) w58 rfl (r_move rfl) ?_
    refine EL_nil ?_
    refine thn_n ?_
    refine EC_block ?_
    refine EC_for 5 ?_
    refine U_step ?_
    refine EC_seq ?_
    refine EC_reg ?_
    refine EL_val (.bool true) w58 rfl (r_dec (by decide) (r_lss rfl rfl)) ?_
    refine EL_nil ?_
    refine thn_n ?_
    refine EC_seq ?_
    refine EC_cond_true rfl ?_
    refine EC_skip ?_
    refine thn_n ?_
    refine EC_seq ?_
    refine EC_block ?_
    refine EC_seq ?_
    refine EC_reg ?_
    refine EL_val (.int .i64 0) w58 rfl (r_move rfl) ?_
    refine EL_val (.int .i64 0) w58 rfl (r_assign rfl) ?_
    refine EL_nil ?_
    refine thn_n ?_
    refine EC_reg ?_
    refine EL_val (.int .i64 0) w58 rfl (r_move rfl) ?_
    refine EL_val (.int .i64 0) w58 rfl (r_move rfl) ?_
    refine EL_val (.int .i64 1) w58 rfl (r_asn (by kernel_rfl) (r_add rfl rfl)) ?_
    refine EL_val (.int .i64 1) w58 rfl (r_asn (by kernel_rfl) (r_rem rfl rfl (by decide))) ?_
    refine EL_val (.int .i64 5) w58 rfl (r_asn (by kernel_rfl) (r_add rfl rfl)) ?_
    refine EL_val (.int .i64 0) w58 rfl (r_move rfl) ?_
    refine EL_val (.int .i64 2) w58 rfl (r_asn (by kernel_rfl) (r_add rfl rfl)) ?_
    refine EL_val (.int .i64 2) w58 rfl (r_asn (by kernel_rfl) (r_rem rfl rfl (by decide))) ?_
    refine EL_val (.int .i64 10) w58 rfl (r_asn (by kernel_rfl) (r_add rfl rfl)) ?_
    refine EL_val (.int .i64 0) w58 rfl (r_move rfl) ?_
    refine EL_val (.int .i64 3) w58 rfl (r_asn (by kernel_rfl) (r_add rfl rfl)) ?_
    refine EL_val (.int .i64 3) w58 rfl (r_asn (by kernel_rfl) (r_rem rfl rfl (by decide))) ?_
    refine EL_val (.int .i64 15) w58 rfl (r_asn (by kernel_rfl) (r_add rfl rfl)) ?_
    obtain ⟨t64, ht64⟩ : ∃ z, z = qr t57 0 5 10 15 := ⟨_, rfl⟩
    have okt64 : OK t64 := by rw [ht64]; exact okt57.qr _ _ _ _
    have lnt64 := okt64.1
    refine EL_ret [ptr b18, .int .i64 0, .int .i64 5, .int .i64 10, .int .i64 15] rfl Try.func35 rfl nm35 rfl (quarter_c b18 t57 okt57 0 5 10 15 (by omega) (by omega) (by omega) (by omega) w58 A55) ?_
    rintro _ w65 ⟨rfl, A62, K63⟩
    replace A62 : Arr w65 b18 44 (t64.map (Value.int .u32)) := by rw [ht64]; exact A62
    have B66 : Below w.heap.size w w65 := below_kept B59 K63 (Nat.le_trans B17.size (Nat.le_of_eq k20.symm)) (B59.size)
    have B67 : Below w12.heap.size w12 w65 := below_kept B60 K63 (Nat.le_trans (Nat.le_refl _) (Nat.le_of_eq k20.symm)) (B60.size)
    have A68 : Arr w65 b11 44 (l.map (Value.int .u32)) := A61.grew K63 (by simp; omega)
    refine EL_nil ?_
    refine inB_n ?_
    refine thn_n ?_
    refine EC_reg ?_
    refine EL_val (.int .i64 1) w65 rfl (r_asn (by kernel_rfl) (r_add rfl rfl)) ?_
    refine EL_val (.int .i64 1) w65 rfl (r_move rfl) ?_
    refine EL_nil ?_
    refine thn_n ?_
    refine U_step ?_
    refine EC_seq ?_
    refine EC_reg ?_
    refine EL_val (.bool true) w65 rfl (r_dec (by decide) (r_lss rfl rfl)) ?_
    refine EL_nil ?_
    refine thn_n ?_
    refine EC_seq ?_
    refine EC_cond_true rfl ?_
    refine EC_skip ?_
    refine thn_n ?_
    refine EC_seq ?_
    refine EC_block ?_
    refine EC_seq ?_
    refine EC_reg ?_
    refine EL_val (.int .i64 1) w65 rfl (r_move rfl) ?_
    refine EL_val (.int .i64 1) w65 rfl (r_assign rfl) ?_
    refine EL_nil ?_
    refine thn_n ?_
    refine EC_reg ?_
    refine EL_val (.int .i64 1) w65 rfl (r_move rfl) ?_
    refine EL_val (.int .i64 1) w65 rfl (r_move rfl) ?_
    refine EL_val (.int .i64 2) w65 rfl (r_asn (by kernel_rfl) (r_add rfl rfl)) ?_
    refine EL_val (.int .i64 2) w65 rfl (r_asn (by kernel_rfl) (r_rem rfl rfl (by decide))) ?_
    refine EL_val (.int .i64 6) w65 rfl (r_asn (by kernel_rfl) (r_add rfl rfl)) ?_
    refine EL_val (.int .i64 1) w65 rfl (r_move rfl) ?_
    refine EL_val (.int .i64 3) w65 rfl (r_asn (by kernel_rfl) (r_add rfl rfl)) ?_
    refine EL_val (.int .i64 3) w65 rfl (r_asn (by kernel_rfl) (r_rem rfl rfl (by decide))) ?_
    refine EL_val (.int .i64 11) w65 rfl (r_asn (by kernel_rfl) (r_add rfl rfl)) ?_
    refine EL_val (.int .i64 1) w65 rfl (r_move rfl) ?_
    refine EL_val (.int .i64 4) w65 rfl (r_asn (by kernel_rfl) (r_add rfl rfl)) ?_
    refine EL_val (.int .i64 0) w65 rfl (r_asn (by kernel_rfl) (r_rem rfl rfl (by decide))) ?_
    refine EL_val (.int .i64 12) w65 rfl (r_asn (by kernel_rfl) (r_add rfl rfl)) ?_
    obtain ⟨t71, ht71⟩ : ∃ z, z = qr t64 1 6 11 12 := ⟨_, rfl⟩
    have okt71 : OK t71 := by rw [ht71]; exact okt64.qr _ _ _ _
    have lnt71 := okt71.1
    refine EL_ret [ptr b18, .int .i64 1, .int .i64 6, .int .i64 11, .int .i64 12] rfl Try.func35 rfl nm35 rfl (quarter_c b18 t64 okt64 1 6 11 12 (by omega) (by omega) (by omega) (by omega) w65 A62) ?_
    rintro _ w72 ⟨rfl, A69, K70⟩
    replace A69 : Arr w72 b18 44 (t71.map (Value.int .u32)) := by rw [ht71]; exact A69
    have B73 : Below w.heap.size w w72 := below_kept B66 K70 (Nat.le_trans B17.size (Nat.le_of_eq k20.symm)) (B66.size)
    have B74 : Below w12.heap.size w12 w72 := below_kept B67 K70 (Nat.le_trans (Nat.le_refl _) (Nat.le_of_eq k20.symm)) (B67.size)
    have A75 : Arr w72 b11 44 (l.map (Value.int .u32)) := A68.grew K70 (by simp; omega)
    refine EL_nil ?_
    refine inB_n ?_
    refine thn_n ?_
    refine EC_reg ?_
    refine EL_val (.int .i64 2) w72 rfl (r_asn (by kernel_rfl) (r_add rfl rfl)) ?_
    refine EL_val (.int .i64 2) w72 rfl (r_move rfl) ?_
    refine EL_nil ?_
    refine thn_n ?_
    refine U_step ?_
    refine EC_seq ?_
    refine EC_reg ?_
    refine EL_val (.bool true) w72 rfl (r_dec (by decide) (r_lss rfl rfl)) ?_
    refine EL_nil ?_
    refine thn_n ?_
    refine EC_seq ?_
    refine EC_cond_true rfl ?_
    refine EC_skip ?_
    refine thn_n ?_
    refine EC_seq ?_
    refine EC_block ?_
    refine EC_seq ?_
    refine EC_reg ?_
    refine EL_val (.int .i64 2) w72 rfl (r_move rfl) ?_
    refine EL_val (.int .i64 2) w72 rfl (r_assign rfl) ?_
    refine EL_nil ?_
    refine thn_n ?_
    refine EC_reg ?_
    refine EL_val (.int .i64 2) w72 rfl (r_move rfl) ?_
    refine EL_val (.int .i64 2) w72 rfl (r_move rfl) ?_
    refine EL_val (.int .i64 3) w72 rfl (r_asn (by kernel_rfl) (r_add rfl rfl)) ?_
    refine EL_val (.int .i64 3) w72 rfl (r_asn (by kernel_rfl) (r_rem rfl rfl (by decide))) ?_
    refine EL_val (.int .i64 7) w72 rfl (r_asn (by kernel_rfl) (r_add rfl rfl)) ?_
    refine EL_val (.int .i64 2) w72 rfl (r_move rfl) ?_
    refine EL_val (.int .i64 4) w72 rfl (r_asn (by kernel_rfl) (r_add rfl rfl)) ?_
    refine EL_val (.int .i64 0) w72 rfl (r_asn (by kernel_rfl) (r_rem rfl rfl (by decide))) ?_
    refine EL_val (.int .i64 8) w72 rfl (r_asn (by kernel_rfl) (r_add rfl rfl)) ?_
    refine EL_val (.int .i64 2) w72 rfl (r_move rfl) ?_
    refine EL_val (.int .i64 5) w72 rfl (r_asn (by kernel_rfl) (r_add rfl rfl)) ?_
    refine EL_val (.int .i64 1) w72 rfl (r_asn (by kernel_rfl) (r_rem rfl rfl (by decide))) ?_
    refine EL_val (.int .i64 13) w72 rfl (r_asn (by kernel_rfl) (r_add rfl rfl)) ?_
    obtain ⟨t78, ht78⟩ : ∃ z, z = qr t71 2 7 8 13 := ⟨_, rfl⟩
    have okt78 : OK t78 := by rw [ht78]; exact okt71.qr _ _ _ _
    have lnt78 := okt78.1
    refine EL_ret [ptr b18, .int .i64 2, .int .i64 7, .int .i64 8, .int .i64 13] rfl Try.func35 rfl nm35 rfl (quarter_c b18 t71 okt71 2 7 8 13 (by omega) (by omega) (by omega) (by omega) w72 A69) ?_
    rintro _ w79 ⟨rfl, A76, K77⟩
    replace A76 : Arr w79 b18 44 (t78.map (Value.int .u32)) := by rw [ht78]; exact A76
    have B80 : Below w.heap.size w w79 := below_kept B73 K77 (Nat.le_trans B17.size (Nat.le_of_eq k20.symm)) (B73.size)
    have B81 : Below w12.heap.size w12 w79 := below_kept B74 K77 (Nat.le_trans (Nat.le_refl _) (Nat.le_of_eq k20.symm)) (B74.size)
    have A82 : Arr w79 b11 44 (l.map (Value.int .u32)) := A75.grew K77 (by simp; omega)
    refine EL_nil ?_
    refine inB_n ?_
    refine thn_n ?_
    refine EC_reg ?_
    refine EL_val (.int .i64 3) w79 rfl (r_asn (by kernel_rfl) (r_add rfl rfl)) ?_
    refine EL_val (.int .i64 3) w79 rfl (r_move rfl) ?_
    refine EL_nil ?_
    refine thn_n ?_
    refine U_step ?_
    refine EC_seq ?_
    refine EC_reg ?_
    refine EL_val (.bool true) w79 rfl (r_dec (by decide) (r_lss rfl rfl)) ?_
    refine EL_nil ?_
    refine thn_n ?_
    refine EC_seq ?_
    refine EC_cond_true rfl ?_
    refine EC_skip ?_
    refine thn_n ?_
    refine EC_seq ?_
    refine EC_block ?_
    refine EC_seq ?_
    refine EC_reg ?_
    refine EL_val (.int .i64 3) w79 rfl (r_move rfl) ?_
    refine EL_val (.int .i64 3) w79 rfl (r_assign rfl) ?_
    refine EL_nil ?_
    refine thn_n ?_
    refine EC_reg ?_
    refine EL_val (.int .i64 3) w79 rfl (r_move rfl) ?_
    refine EL_val (.int .i64 3) w79 rfl (r_move rfl) ?_
    refine EL_val (.int .i64 4) w79 rfl (r_asn (by kernel_rfl) (r_add rfl rfl)) ?_
    refine EL_val (.int .i64 0) w79 rfl (r_asn (by kernel_rfl) (r_rem rfl rfl (by decide))) ?_
    refine EL_val (.int .i64 4) w79 rfl (r_asn (by kernel_rfl) (r_add rfl rfl)) ?_
    refine EL_val (.int .i64 3) w79 rfl (r_move rfl) ?_
    refine EL_val (.int .i64 5) w79 rfl (r_asn (by kernel_rfl) (r_add rfl rfl)) ?_
    refine EL_val (.int .i64 1) w79 rfl (r_asn (by kernel_rfl) (r_rem rfl rfl (by decide))) ?_
    refine EL_val (.int .i64 9) w79 rfl (r_asn (by kernel_rfl) (r_add rfl rfl)) ?_
    refine EL_val (.int .i64 3) w79 rfl (r_move rfl) ?_
    refine EL_val (.int .i64 6) w79 rfl (r_asn (by kernel_rfl) (r_add rfl rfl)) ?_
    refine EL_val (.int .i64 2) w79 rfl (r_asn (by kernel_rfl) (r_rem rfl rfl (by decide))) ?_
    refine EL_val (.int .i64 14) w79 rfl (r_asn (by kernel_rfl) (r_add rfl rfl)) ?_
    obtain ⟨t85, ht85⟩ : ∃ z, z = qr t78 3 4 9 14 := ⟨_, rfl⟩
    have okt85 : OK t85 := by rw [ht85]; exact okt78.qr _ _ _ _
    have lnt85 := okt85.1
    refine EL_ret [ptr b18, .int .i64 3, .int .i64 4, .int .i64 9, .int .i64 14] rfl Try.func35 rfl nm35 rfl (quarter_c b18 t78 okt78 3 4 9 14 (by omega) (by omega) (by omega) (by omega) w79 A76) ?_
    rintro _ w86 ⟨rfl, A83, K84⟩
    replace A83 : Arr w86 b18 44 (t85.map (Value.int .u32)) := by rw [ht85]; exact A83
    have B87 : Below w.heap.size w w86 := below_kept B80 K84 (Nat.le_trans B17.size (Nat.le_of_eq k20.symm)) (B80.size)
    have B88 : Below w12.heap.size w12 w86 := below_kept B81 K84 (Nat.le_trans (Nat.le_refl _) (Nat.le_of_eq k20.symm)) (B81.size)
    have A89 : Arr w86 b11 44 (l.map (Value.int .u32)) := A82.grew K84 (by simp; omega)
    refine EL_nil ?_
    refine inB_n ?_
    refine thn_n ?_
    refine EC_reg ?_
    refine EL_val (.int .i64 4) w86 rfl (r_asn (by kernel_rfl) (r_add rfl rfl)) ?_
    refine EL_val (.int .i64 4) w86 rfl (r_move rfl) ?_
    refine EL_nil ?_
    refine thn_n ?_
    refine U_step ?_
    refine EC_seq ?_
    refine EC_reg ?_
    refine EL_val (.bool false) w86 rfl (r_dec (by decide) (r_lss rfl rfl)) ?_
    refine EL_nil ?_
    refine thn_n ?_
    refine EC_seq ?_
    refine EC_cond_false rfl ?_
    refine EC_exit ?_
    refine thn_x ?_
    refine thn_x ?_
    refine inB_hit ?_
    refine thn_n ?_
    refine EC_seq ?_
    refine EC_seq ?_
    refine EC_reg ?_
    refine EL_val (.int .i64 0) w86 rfl (r_move rfl) ?_
    refine EL_val (.int .i64 1) w86 rfl (r_asn (by kernel_rfl) (r_add rfl rfl)) ?_
    refine EL_val (.int .i64 1) w86 rfl (r_assign rfl) ?_
    refine EL_nil ?_
    refine thn_n ?_
    refine EC_seq ?_
    refine EC_reg ?_
    refine EL_val (.int .i64 1) w86 rfl (r_move rfl) ?_
    refine EL_val (.bool true) w86 rfl (r_dec (by decide) (r_lss rfl rfl)) ?_
    refine EL_nil ?_
    refine thn_n ?_
    refine EC_cond_true rfl ?_
    refine EC_goto ?_
    refine thn_g ?_
    refine jmp_g _ ?_ ⟨rfl, 1, b18, rfl, rfl, rfl, rfl, by omega, (Nat.le_of_eq k20.symm), B87, B88, by rw [show rnd l (1 : Int).toNat = t85 from by rw [ht85, ht78, ht71, ht64, ht57, ht50, ht43, ht36]; rfl]; exact A83⟩
    first | omega | (simp; omega)
  · rintro _ _ E96 w97 (⟨rfl, n, q, rfl, e90, e91, e92, hn, hq, B93, B94, A95⟩)
    · refine ⟨_, rfl, ?_⟩
      refine EC_seq ?_
      refine EC_skip ?_
      refine thn_n ?_
      refine EC_seq ?_
      refine EC_seq ?_
      refine EC_reg ?_
      refine EL_val (.int .i64 0) w97 rfl (r_move rfl) ?_
      refine EL_nil ?_
      refine thn_n ?_
      refine EC_block ?_
      refine EC_for 5 ?_
      refine U_step ?_
      refine EC_seq ?_
      refine EC_reg ?_
      refine EL_val (.bool true) w97 rfl (r_dec (by decide) (r_lss rfl rfl)) ?_
      refine EL_nil ?_
      refine thn_n ?_
      refine EC_seq ?_
      refine EC_cond_true rfl ?_
      refine EC_skip ?_
      refine thn_n ?_
      refine EC_seq ?_
      refine EC_block ?_
      refine EC_seq ?_
      refine EC_reg ?_
      refine EL_val (.int .i64 0) w97 rfl (r_move rfl) ?_
      refine EL_val (.int .i64 0) w97 rfl (r_assign rfl) ?_
      refine EL_nil ?_
      refine thn_n ?_
      refine EC_reg ?_
      refine EL_val (.int .i64 0) w97 rfl (r_move rfl) ?_
      refine EL_val (.int .i64 0) w97 rfl (r_move rfl) ?_
      refine EL_val (.int .i64 4) w97 rfl (r_asn (by kernel_rfl) (r_add rfl rfl)) ?_
      refine EL_val (.int .i64 0) w97 rfl (r_move rfl) ?_
      refine EL_val (.int .i64 8) w97 rfl (r_asn (by kernel_rfl) (r_add rfl rfl)) ?_
      refine EL_val (.int .i64 0) w97 rfl (r_move rfl) ?_
      refine EL_val (.int .i64 12) w97 rfl (r_asn (by kernel_rfl) (r_add rfl rfl)) ?_
      obtain ⟨t100, ht100⟩ : ∃ z, z = qr (rnd l n.toNat) 0 4 8 12 := ⟨_, rfl⟩
      have okt100 : OK t100 := by rw [ht100]; exact (hok.rnd n.toNat).qr _ _ _ _
      have lnt100 := okt100.1
      refine EL_ret [ptr q, .int .i64 0, .int .i64 4, .int .i64 8, .int .i64 12] rfl Try.func35 rfl nm35 (by exact args5 (by exact e91) rfl rfl rfl rfl) (quarter_c q (rnd l n.toNat) (hok.rnd n.toNat) 0 4 8 12 (by omega) (by omega) (by omega) (by omega) w97 A95) ?_
      rintro _ w101 ⟨rfl, A98, K99⟩
      replace A98 : Arr w101 q 44 (t100.map (Value.int .u32)) := by rw [ht100]; exact A98
      have B102 : Below w.heap.size w w101 := below_kept B93 K99 (Nat.le_trans B17.size hq) (B93.size)
      have B103 : Below w12.heap.size w12 w101 := below_kept B94 K99 (Nat.le_trans (Nat.le_refl _) hq) (B94.size)
      have A104 : Arr w101 b11 44 (l.map (Value.int .u32)) := (A14'.below B94).grew K99 (by simp; omega)
      refine EL_nil ?_
      refine inB_n ?_
      refine thn_n ?_
      refine EC_reg ?_
      refine EL_val (.int .i64 1) w101 rfl (r_asn (by kernel_rfl) (r_add rfl rfl)) ?_
      refine EL_val (.int .i64 1) w101 rfl (r_move rfl) ?_
      refine EL_nil ?_
      refine thn_n ?_
      refine U_step ?_
      refine EC_seq ?_
      refine EC_reg ?_
      refine EL_val (.bool true) w101 rfl (r_dec (by decide) (r_lss rfl rfl)) ?_
      refine EL_nil ?_
      refine thn_n ?_
      refine EC_seq ?_
      refine EC_cond_true rfl ?_
      refine EC_skip ?_
      refine thn_n ?_
      refine EC_seq ?_
      refine EC_block ?_
      refine EC_seq ?_
      refine EC_reg ?_
      refine EL_val (.int .i64 1) w101 rfl (r_move rfl) ?_
      refine EL_val (.int .i64 1) w101 rfl (r_assign rfl) ?_
      refine EL_nil ?_
      refine thn_n ?_
      refine EC_reg ?_
      refine EL_val (.int .i64 1) w101 rfl (r_move rfl) ?_
      refine EL_val (.int .i64 1) w101 rfl (r_move rfl) ?_
      refine EL_val (.int .i64 5) w101 rfl (r_asn (by kernel_rfl) (r_add rfl rfl)) ?_
      refine EL_val (.int .i64 1) w101 rfl (r_move rfl) ?_
      refine EL_val (.int .i64 9) w101 rfl (r_asn (by kernel_rfl) (r_add rfl rfl)) ?_
      refine EL_val (.int .i64 1) w101 rfl (r_move rfl) ?_
      refine EL_val (.int .i64 13) w101 rfl (r_asn (by kernel_rfl) (r_add rfl rfl)) ?_
      obtain ⟨t107, ht107⟩ : ∃ z, z = qr t100 1 5 9 13 := ⟨_, rfl⟩
      have okt107 : OK t107 := by rw [ht107]; exact okt100.qr _ _ _ _
      have lnt107 := okt107.1
      refine EL_ret [ptr q, .int .i64 1, .int .i64 5, .int .i64 9, .int .i64 13] rfl Try.func35 rfl nm35 (by exact args5 (by exact e91) rfl rfl rfl rfl) (quarter_c q t100 okt100 1 5 9 13 (by omega) (by omega) (by omega) (by omega) w101 A98) ?_
      rintro _ w108 ⟨rfl, A105, K106⟩
      replace A105 : Arr w108 q 44 (t107.map (Value.int .u32)) := by rw [ht107]; exact A105
      have B109 : Below w.heap.size w w108 := below_kept B102 K106 (Nat.le_trans B17.size hq) (B102.size)
      have B110 : Below w12.heap.size w12 w108 := below_kept B103 K106 (Nat.le_trans (Nat.le_refl _) hq) (B103.size)
      have A111 : Arr w108 b11 44 (l.map (Value.int .u32)) := A104.grew K106 (by simp; omega)
      refine EL_nil ?_
      refine inB_n ?_
      refine thn_n ?_
      refine EC_reg ?_
      refine EL_val (.int .i64 2) w108 rfl (r_asn (by kernel_rfl) (r_add rfl rfl)) ?_
      refine EL_val (.int .i64 2) w108 rfl (r_move rfl) ?_
      refine EL_nil ?_
      refine thn_n ?_
      refine U_step ?_
      refine EC_seq ?_
      refine EC_reg ?_
      refine EL_val (.bool true) w108 rfl (r_dec (by decide) (r_lss rfl rfl)) ?_
      refine EL_nil ?_
      refine thn_n ?_
      refine EC_seq ?_
      refine EC_cond_true rfl ?_
      refine EC_skip ?_
      refine thn_n ?_
      refine EC_seq ?_
      refine EC_block ?_
      refine EC_seq ?_
      refine EC_reg ?_
      refine EL_val (.int .i64 2) w108 rfl (r_move rfl) ?_
      refine EL_val (.int .i64 2) w108 rfl (r_assign rfl) ?_
      refine EL_nil ?_
      refine thn_n ?_
      refine EC_reg ?_
      refine EL_val (.int .i64 2) w108 rfl (r_move rfl) ?_
      refine EL_val (.int .i64 2) w108 rfl (r_move rfl) ?_
      refine EL_val (.int .i64 6) w108 rfl (r_asn (by kernel_rfl) (r_add rfl rfl)) ?_
      refine EL_val (.int .i64 2) w108 rfl (r_move rfl) ?_
      refine EL_val (.int .i64 10) w108 rfl (r_asn (by kernel_rfl) (r_add rfl rfl)) ?_
      refine EL_val (.int .i64 2) w108 rfl (r_move rfl) ?_
      refine EL_val (.int .i64 14) w108 rfl (r_asn (by kernel_rfl) (r_add rfl rfl)) ?_
      obtain ⟨t114, ht114⟩ : ∃ z, z = qr t107 2 6 10 14 := ⟨_, rfl⟩
      have okt114 : OK t114 := by rw [ht114]; exact okt107.qr _ _ _ _
      have lnt114 := okt114.1
      refine EL_ret [ptr q, .int .i64 2, .int .i64 6, .int .i64 10, .int .i64 14] rfl Try.func35 rfl nm35 (by exact args5 (by exact e91) rfl rfl rfl rfl) (quarter_c q t107 okt107 2 6 10 14 (by omega) (by omega) (by omega) (by omega) w108 A105) ?_
      rintro _ w115 ⟨rfl, A112, K113⟩
      replace A112 : Arr w115 q 44 (t114.map (Value.int .u32)) := by rw [ht114]; exact A112
      have B116 : Below w.heap.size w w115 := below_kept B109 K113 (Nat.le_trans B17.size hq) (B109.size)
      have B117 : Below w12.heap.size w12 w115 := below_kept B110 K113 (Nat.le_trans (Nat.le_refl _) hq) (B110.size)
      have A118 : Arr w115 b11 44 (l.map (Value.int .u32)) := A111.grew K113 (by simp; omega)
      refine EL_nil ?_
      refine inB_n ?_
      refine thn_n ?_
      refine EC_reg ?_
      refine EL_val (.int .i64 3) w115 rfl (r_asn (by kernel_rfl) (r_add rfl rfl)) ?_
      refine EL_val (.int .i64 3) w115 rfl (r_move rfl) ?_
      refine EL_nil ?_
      refine thn_n ?_
      refine U_step ?_
      refine EC_seq ?_
      refine EC_reg ?_
      refine EL_val (.bool true) w115 rfl (r_dec (by decide) (r_lss rfl rfl)) ?_
      refine EL_nil ?_
      refine thn_n ?_
      refine EC_seq ?_
      refine EC_cond_true rfl ?_
      refine EC_skip ?_
      refine thn_n ?_
      refine EC_seq ?_
      refine EC_block ?_
      refine EC_seq ?_
      refine EC_reg ?_
      refine EL_val (.int .i64 3) w115 rfl (r_move rfl) ?_
      refine EL_val (.int .i64 3) w115 rfl (r_assign rfl) ?_
      refine EL_nil ?_
      refine thn_n ?_
      refine EC_reg ?_
      refine EL_val (.int .i64 3) w115 rfl (r_move rfl) ?_
      refine EL_val (.int .i64 3) w115 rfl (r_move rfl) ?_
      refine EL_val (.int .i64 7) w115 rfl (r_asn (by kernel_rfl) (r_add rfl rfl)) ?_
      refine EL_val (.int .i64 3) w115 rfl (r_move rfl) ?_
      refine EL_val (.int .i64 11) w115 rfl (r_asn (by kernel_rfl) (r_add rfl rfl)) ?_
      refine EL_val (.int .i64 3) w115 rfl (r_move rfl) ?_
      refine EL_val (.int .i64 15) w115 rfl (r_asn (by kernel_rfl) (r_add rfl rfl)) ?_
      obtain ⟨t121, ht121⟩ : ∃ z, z = qr t114 3 7 11 15 := ⟨_, rfl⟩
      have okt121 : OK t121 := by rw [ht121]; exact okt114.qr _ _ _ _
      have lnt121 := okt121.1
      refine EL_ret [ptr q, .int .i64 3, .int .i64 7, .int .i64 11, .int .i64 15] rfl Try.func35 rfl nm35 (by exact args5 (by exact e91) rfl rfl rfl rfl) (quarter_c q t114 okt114 3 7 11 15 (by omega) (by omega) (by omega) (by omega) w115 A112) ?_
      rintro _ w122 ⟨rfl, A119, K120⟩
      replace A119 : Arr w122 q 44 (t121.map (Value.int .u32)) := by rw [ht121]; exact A119
      have B123 : Below w.heap.size w w122 := below_kept B116 K120 (Nat.le_trans B17.size hq) (B116.size)
      have B124 : Below w12.heap.size w12 w122 := below_kept B117 K120 (Nat.le_trans (Nat.le_refl _) hq) (B117.size)
      have A125 : Arr w122 b11 44 (l.map (Value.int .u32)) := A118.grew K120 (by simp; omega)
      refine EL_nil ?_
      refine inB_n ?_
      refine thn_n ?_
      refine EC_reg ?_
      refine EL_val (.int .i64 4) w122 rfl (r_asn (by kernel_rfl) (r_add rfl rfl)) ?_
      refine EL_val (.int .i64 4) w122 rfl (r_move rfl) ?_
      refine EL_nil ?_
      refine thn_n ?_
      refine U_step ?_
      refine EC_seq ?_
      refine EC_reg ?_
      refine EL_val (.bool false) w122 rfl (r_dec (by decide) (r_lss rfl rfl)) ?_
      refine EL_nil ?_
      refine thn_n ?_
      refine EC_seq ?_
      refine EC_cond_false rfl ?_
      refine EC_exit ?_
      refine thn_x ?_
      refine thn_x ?_
      refine inB_hit ?_
      refine thn_n ?_
      refine EC_seq ?_
      refine EC_seq ?_
      refine EC_reg ?_
      refine EL_val (.int .i64 0) w122 rfl (r_move rfl) ?_
      refine EL_nil ?_
      refine thn_n ?_
      refine EC_block ?_
      refine EC_for 5 ?_
      refine U_step ?_
      refine EC_seq ?_
      refine EC_reg ?_
      refine EL_val (.bool true) w122 rfl (r_dec (by decide) (r_lss rfl rfl)) ?_
      refine EL_nil ?_
      refine thn_n ?_
      refine EC_seq ?_
      refine EC_cond_true rfl ?_
      refine EC_skip ?_
      refine thn_n ?_
      refine EC_seq ?_
      refine EC_block ?_
      refine EC_seq ?_
      refine EC_reg ?_
      refine EL_val (.int .i64 0) w122 rfl (r_move rfl) ?_
      refine EL_val (.int .i64 0) w122 rfl (r_assign rfl) ?_
      refine EL_nil ?_
      refine thn_n ?_
      refine EC_reg ?_
      refine EL_val (.int .i64 0) w122 rfl (r_move rfl) ?_
      refine EL_val (.int .i64 0) w122 rfl (r_move rfl) ?_
      refine EL_val (.int .i64 1) w122 rfl (r_asn (by kernel_rfl) (r_add rfl rfl)) ?_
      refine EL_val (.int .i64 1) w122 rfl (r_asn (by kernel_rfl) (r_rem rfl rfl (by decide))) ?_
      refine EL_val (.int .i64 5) w122 rfl (r_asn (by kernel_rfl) (r_add rfl rfl)) ?_
      refine EL_val (.int .i64 0) w122 rfl (r_move rfl) ?_
      refine EL_val (.int .i64 2) w122 rfl (r_asn (by kernel_rfl) (r_add rfl rfl)) ?_
      refine EL_val (.int .i64 2) w122 rfl (r_asn (by kernel_rfl) (r_rem rfl rfl (by decide))) ?_
      refine EL_val (.int .i64 10) w122 rfl (r_asn (by kernel_rfl) (r_add rfl rfl)) ?_
      refine EL_val (.int .i64 0) w122 rfl (r_move rfl) ?_
      refine EL_val (.int .i64 3) w122 rfl (r_asn (by kernel_rfl) (r_add rfl rfl)) ?_
      refine EL_val (.int .i64 3) w122 rfl (r_asn (by kernel_rfl) (r_rem rfl rfl (by decide))) ?_
      refine EL_val (.int .i64 15) w122 rfl (r_asn (by kernel_rfl) (r_add rfl rfl)) ?_
      obtain ⟨t128, ht128⟩ : ∃ z, z = qr t121 0 5 10 15 := ⟨_, rfl⟩
      have okt128 : OK t128 := by rw [ht128]; exact okt121.qr _ _ _ _
      have lnt128 := okt128.1
      refine EL_ret [ptr q, .int .i64 0, .int .i64 5, .int .i64 10, .int .i64 15] rfl Try.func35 rfl nm35 (by exact args5 (by exact e91) rfl rfl rfl rfl) (quarter_c q t121 okt121 0 5 10 15 (by omega) (by omega) (by omega) (by omega) w122 A119) ?_
      rintro _ w129 ⟨rfl, A126, K127⟩
      replace A126 : Arr w129 q 44 (t128.map (Value.int .u32)) := by rw [ht128]; exact A126
      have B130 : Below w.heap.size w w129 := below_kept B123 K127 (Nat.le_trans B17.size hq) (B123.size)
      have B131 : Below w12.heap.size w12 w129 := below_kept B124 K127 (Nat.le_trans (Nat.le_refl _) hq) (B124.size)
      have A132 : Arr w129 b11 44 (l.map (Value.int .u32)) := A125.grew K127 (by simp; omega)
      refine EL_nil ?_
      refine inB_n ?_
      refine thn_n ?_
      refine EC_reg ?_
      refine EL_val (.int .i64 1) w129 rfl (r_asn (by kernel_rfl) (r_add rfl rfl)) ?_
      refine EL_val (.int .i64 1) w129 rfl (r_move rfl) ?_
      refine EL_nil ?_
      refine thn_n ?_
      refine U_step ?_
      refine EC_seq ?_
      refine EC_reg ?_
      refine EL_val (.bool true) w129 rfl (r_dec (by decide) (r_lss rfl rfl)) ?_
      refine EL_nil ?_
      refine thn_n ?_
      refine EC_seq ?_
      refine EC_cond_true rfl ?_
      refine EC_skip ?_
      refine thn_n ?_
      refine EC_seq ?_
      refine EC_block ?_
      refine EC_seq ?_
      refine EC_reg ?_
      refine EL_val (.int .i64 1) w129 rfl (r_move rfl) ?_
      refine EL_val (.int .i64 1) w129 rfl (r_assign rfl) ?_
      refine EL_nil ?_
      refine thn_n ?_
      refine EC_reg ?_
      refine EL_val (.int .i64 1) w129 rfl (r_move rfl) ?_
      refine EL_val (.int .i64 1) w129 rfl (r_move rfl) ?_
      refine EL_val (.int .i64 2) w129 rfl (r_asn (by kernel_rfl) (r_add rfl rfl)) ?_
      refine EL_val (.int .i64 2) w129 rfl (r_asn (by kernel_rfl) (r_rem rfl rfl (by decide))) ?_
      refine EL_val (.int .i64 6) w129 rfl (r_asn (by kernel_rfl) (r_add rfl rfl)) ?_
      refine EL_val (.int .i64 1) w129 rfl (r_move rfl) ?_
      refine EL_val (.int .i64 3) w129 rfl (r_asn (by kernel_rfl) (r_add rfl rfl)) ?_
      refine EL_val (.int .i64 3) w129 rfl (r_asn (by kernel_rfl) (r_rem rfl rfl (by decide))) ?_
      refine EL_val (.int .i64 11) w129 rfl (r_asn (by kernel_rfl) (r_add rfl rfl)) ?_
      refine EL_val (.int .i64 1) w129 rfl (r_move rfl) ?_
      refine EL_val (.int .i64 4) w129 rfl (r_asn (by kernel_rfl) (r_add rfl rfl)) ?_
      refine EL_val (.int .i64 0) w129 rfl (r_asn (by kernel_rfl) (r_rem rfl rfl (by decide))) ?_
      refine EL_val (.int .i64 12) w129 rfl (r_asn (by kernel_rfl) (r_add rfl rfl)) ?_
      obtain ⟨t135, ht135⟩ : ∃ z, z = qr t128 1 6 11 12 := ⟨_, rfl⟩
      have okt135 : OK t135 := by rw [ht135]; exact okt128.qr _ _ _ _
      have lnt135 := okt135.1
      refine EL_ret [ptr q, .int .i64 1, .int .i64 6, .int .i64 11, .int .i64 12] rfl Try.func35 rfl nm35 (by exact args5 (by exact e91) rfl rfl rfl rfl) (quarter_c q t128 okt128 1 6 11 12 (by omega) (by omega) (by omega) (by omega) w129 A126) ?_
      rintro _ w136 ⟨rfl, A133, K134⟩
      replace A133 : Arr w136 q 44 (t135.map (Value.int .u32)) := by rw [ht135]; exact A133
      have B137 : Below w.heap.size w w136 := below_kept B130 K134 (Nat.le_trans B17.size hq) (B130.size)
      have B138 : Below w12.heap.size w12 w136 := below_kept B131 K134 (Nat.le_trans (Nat.le_refl _) hq) (B131.size)
      have A139 : Arr w136 b11 44 (l.map (Value.int .u32)) := A132.grew K134 (by simp; omega)
      refine EL_nil ?_
      refine inB_n ?_
      refine thn_n ?_
      refine EC_reg ?_
      refine EL_val (.int .i64 2) w136 rfl (r_asn (by kernel_rfl) (r_add rfl rfl)) ?_
      refine EL_val (.int .i64 2) w136 rfl (r_move rfl) ?_
      refine EL_nil ?_
      refine thn_n ?_
      refine U_step ?_
      refine EC_seq ?_
      refine EC_reg ?_
      refine EL_val (.bool true) w136 rfl (r_dec (by decide) (r_lss rfl rfl)) ?_
      refine EL_nil ?_
      refine thn_n ?_
      refine EC_seq ?_
      refine EC_cond_true rfl ?_
      refine EC_skip ?_
      refine thn_n ?_
      refine EC_seq ?_
      refine EC_block ?_
      refine EC_seq ?_
      refine EC_reg ?_
      refine EL_val (.int .i64 2) w136 rfl (r_move rfl) ?_
      refine EL_val (.int .i64 2) w136 rfl (r_assign rfl) ?_
      refine EL_nil ?_
      refine thn_n ?_
      refine EC_reg ?_
      refine EL_val (.int .i64 2) w136 rfl (r_move rfl) ?_
      refine EL_val (.int .i64 2) w136 rfl (r_move rfl) ?_
      refine EL_val (.int .i64 3) w136 rfl (r_asn (by kernel_rfl) (r_add rfl rfl)) ?_
      refine EL_val (.int .i64 3) w136 rfl (r_asn (by kernel_rfl) (r_rem rfl rfl (by decide))) ?_
      refine EL_val (.int .i64 7) w136 rfl (r_asn (by kernel_rfl) (r_add rfl rfl)) ?_
      refine EL_val (.int .i64 2) w136 rfl (r_move rfl) ?_
      refine EL_val (.int .i64 4) w136 rfl (r_asn (by kernel_rfl) (r_add rfl rfl)) ?_
      refine EL_val (.int .i64 0) w136 rfl (r_asn (by kernel_rfl) (r_rem rfl rfl (by decide))) ?_
      refine EL_val (.int .i64 8) w136 rfl (r_asn (by kernel_rfl) (r_add rfl rfl)) ?_
      refine EL_val (.int .i64 2) w136 rfl (r_move rfl) ?_
      refine EL_val (.int .i64 5) w136 rfl (r_asn (by kernel_rfl) (r_add rfl rfl)) ?_
      refine EL_val (.int .i64 1) w136 rfl (r_asn (by kernel_rfl) (r_rem rfl rfl (by decide))) ?_
      refine EL_val (.int .i64 13) w136 rfl (r_asn (by kernel_rfl) (r_add rfl rfl)) ?_
      obtain ⟨t142, ht142⟩ : ∃ z, z = qr t135 2 7 8 13 := ⟨_, rfl⟩
      have okt142 : OK t142 := by rw [ht142]; exact okt135.qr _ _ _ _
      have lnt142 := okt142.1
      refine EL_ret [ptr q, .int .i64 2, .int .i64 7, .int .i64 8, .int .i64 13] rfl Try.func35 rfl nm35 (by exact args5 (by exact e91) rfl rfl rfl rfl) (quarter_c q t135 okt135 2 7 8 13 (by omega) (by omega) (by omega) (by omega) w136 A133) ?_
      rintro _ w143 ⟨rfl, A140, K141⟩
      replace A140 : Arr w143 q 44 (t142.map (Value.int .u32)) := by rw [ht142]; exact A140
      have B144 : Below w.heap.size w w143 := below_kept B137 K141 (Nat.le_trans B17.size hq) (B137.size)
      have B145 : Below w12.heap.size w12 w143 := below_kept B138 K141 (Nat.le_trans (Nat.le_refl _) hq) (B138.size)
      have A146 : Arr w143 b11 44 (l.map (Value.int .u32)) := A139.grew K141 (by simp; omega)
      refine EL_nil ?_
      refine inB_n ?_
      refine thn_n ?_
      refine EC_reg ?_
      refine EL_val (.int .i64 3) w143 rfl (r_asn (by kernel_rfl) (r_add rfl rfl)) ?_
      refine EL_val (.int .i64 3) w143 rfl (r_move rfl) ?_
      refine EL_nil ?_
      refine thn_n ?_
      refine U_step ?_
      refine EC_seq ?_
      refine EC_reg ?_
      refine EL_val (.bool true) w143 rfl (r_dec (by decide) (r_lss rfl rfl)) ?_
      refine EL_nil ?_
      refine thn_n ?_
      refine EC_seq ?_
      refine EC_cond_true rfl ?_
      refine EC_skip ?_
      refine thn_n ?_
      refine EC_seq ?_
      refine EC_block ?_
      refine EC_seq ?_
      refine EC_reg ?_
      refine EL_val (.int .i64 3) w143 rfl (r_move rfl) ?_
      refine EL_val (.int .i64 3) w143 rfl (r_assign rfl) ?_
      refine EL_nil ?_
      refine thn_n ?_
      refine EC_reg ?_
      refine EL_val (.int .i64 3) w143 rfl (r_move rfl) ?_
      refine EL_val (.int .i64 3) w143 rfl (r_move rfl) ?_
      refine EL_val (.int .i64 4) w143 rfl (r_asn (by kernel_rfl) (r_add rfl rfl)) ?_
      refine EL_val (.int .i64 0) w143 rfl (r_asn (by kernel_rfl) (r_rem rfl rfl (by decide))) ?_
      refine EL_val (.int .i64 4) w143 rfl (r_asn (by kernel_rfl) (r_add rfl rfl)) ?_
      refine EL_val (.int .i64 3) w143 rfl (r_move rfl) ?_
      refine EL_val (.int .i64 5) w143 rfl (r_asn (by kernel_rfl) (r_add rfl rfl)) ?_
      refine EL_val (.int .i64 1) w143 rfl (r_asn (by kernel_rfl) (r_rem rfl rfl (by decide))) ?_
      refine EL_val (.int .i64 9) w143 rfl (r_asn (by kernel_rfl) (r_add rfl rfl)) ?_
      refine EL_val (.int .i64 3) w143 rfl (r_move rfl) ?_
      refine EL_val (.int .i64 6) w143 rfl (r_asn (by kernel_rfl) (r_add rfl rfl)) ?_
      refine EL_val (.int .i64 2) w143 rfl (r_asn (by kernel_rfl) (r_rem rfl rfl (by decide))) ?_
      refine EL_val (.int .i64 14) w143 rfl (r_asn (by kernel_rfl) (r_add rfl rfl)) ?_
      obtain ⟨t149, ht149⟩ : ∃ z, z = qr t142 3 4 9 14 := ⟨_, rfl⟩
      have okt149 : OK t149 := by rw [ht149]; exact okt142.qr _ _ _ _
      have lnt149 := okt149.1
      refine EL_ret [ptr q, .int .i64 3, .int .i64 4, .int .i64 9, .int .i64 14] rfl Try.func35 rfl nm35 (by exact args5 (by exact e91) rfl rfl rfl rfl) (quarter_c q t142 okt142 3 4 9 14 (by omega) (by omega) (by omega) (by omega) w143 A140) ?_
      rintro _ w150 ⟨rfl, A147, K148⟩
      replace A147 : Arr w150 q 44 (t149.map (Value.int .u32)) := by rw [ht149]; exact A147
      have B151 : Below w.heap.size w w150 := below_kept B144 K148 (Nat.le_trans B17.size hq) (B144.size)
      have B152 : Below w12.heap.size w12 w150 := below_kept B145 K148 (Nat.le_trans (Nat.le_refl _) hq) (B145.size)
      have A153 : Arr w150 b11 44 (l.map (Value.int .u32)) := A146.grew K148 (by simp; omega)
      refine EL_nil ?_
      refine inB_n ?_
      refine thn_n ?_
      refine EC_reg ?_
      refine EL_val (.int .i64 4) w150 rfl (r_asn (by kernel_rfl) (r_add rfl rfl)) ?_
      refine EL_val (.int .i64 4) w150 rfl (r_move rfl) ?_
      refine EL_nil ?_
      refine thn_n ?_
      refine U_step ?_
      refine EC_seq ?_
      refine EC_reg ?_
      refine EL_val (.bool false) w150 rfl (r_dec (by decide) (r_lss rfl rfl)) ?_
      refine EL_nil ?_
      refine thn_n ?_
      refine EC_seq ?_
      refine EC_cond_false rfl ?_
      refine EC_exit ?_
      refine thn_x ?_
      refine thn_x ?_
      refine inB_hit ?_
      refine thn_n ?_
      refine EC_seq ?_
      refine EC_seq ?_
      refine EC_reg ?_
      refine EL_val (.int .i64 n) w150 rfl (r_move (by exact e90)) ?_
      refine EL_int (n + 1) rfl (r_addi rfl rfl (by omega)) ?_
      intro x154 hx154
      refine EL_val (.int .i64 x154) w150 rfl (r_assign rfl) ?_
      refine EL_nil ?_
      refine thn_n ?_
      refine EC_seq ?_
      refine EC_reg ?_
      refine EL_val (.int .i64 x154) w150 rfl (r_move rfl) ?_
      refine EL_val (.bool (decide (x154 < 10))) w150 rfl (r_lss rfl rfl) ?_
      refine EL_nil ?_
      refine thn_n ?_
      refine EC_if (p := x154 < 10) rfl (fun h155 => ?_) (fun h155 => ?_)
      · refine EC_goto ?_
        refine thn_g ?_
        refine jmp_g _ ?_ ⟨rfl, x154, q, rfl, rfl, (by exact e91), (by exact e92), by omega, hq, B151, B152, by rw [show rnd l (x154 : Int).toNat = t149 from by rw [show (x154 : Int).toNat = n.toNat + 1 from by omega, ht149, ht142, ht135, ht128, ht121, ht114, ht107, ht100]; rfl]; exact A147⟩
        first | omega | (simp; omega)
      · refine EC_skip ?_
        refine thn_n ?_
        refine EC_seq ?_
        refine EC_reg ?_
        refine EL_val (.slice none 0 0) w150 rfl (r_assign rfl) ?_
        refine EL_nil ?_
        refine thn_n ?_
        refine EC_seq ?_
        refine EC_seq ?_
        refine EC_reg ?_
        refine EL_val (.agg (t149.map (Value.int .u32)).toArray) w150 rfl (r_loadAll (by exact e91) A147 Try.underlying44 rfl (Eq.trans (show _ = some 16 from by kernel_rfl) (congrArg some (by first | (simp; done) | (simp; omega) | rfl)))) ?_
        refine EL_val (.int .i64 0) w150 rfl (r_move rfl) ?_
        refine EL_nil ?_
        refine thn_n ?_
        refine EC_block ?_
        have e10 : t149 = rnd l 10 := by rw [show (10 : Nat) = n.toNat + 1 from by omega, ht149, ht142, ht135, ht128, ht121, ht114, ht107, ht100]; rfl
        have hl0 := hok.1
        have hl1 := okt149.1
        refine EC_loop (fun m' E' w' => ∃ i : Int, ∃ ov : Value, m' = (16 - i).toNat ∧ E' 46 = .int .i64 i ∧ E' 7 = ov ∧ E' 1 = ptr b11 ∧ E' 3 = ptr q ∧ E' 4 = .int .i64 x154 ∧ E' 5 = .int .i64 3 ∧ E' 6 = .int .i64 3 ∧ E' 11 = .int .i64 4 ∧ E' 12 = .bool false ∧ E' 13 = .int .i64 3 ∧ E' 14 = .int .i64 3 ∧ E' 15 = .int .i64 3 ∧ E' 16 = .int .i64 7 ∧ E' 17 = .int .i64 3 ∧ E' 18 = .int .i64 11 ∧ E' 19 = .int .i64 3 ∧ E' 20 = .int .i64 15 ∧ E' 22 = .int .i64 4 ∧ E' 23 = .int .i64 4 ∧ E' 24 = .bool false ∧ E' 25 = .int .i64 3 ∧ E' 26 = .int .i64 3 ∧ E' 27 = .int .i64 3 ∧ E' 28 = .int .i64 4 ∧ E' 29 = .int .i64 0 ∧ E' 30 = .int .i64 4 ∧ E' 31 = .int .i64 3 ∧ E' 32 = .int .i64 5 ∧ E' 33 = .int .i64 1 ∧ E' 34 = .int .i64 9 ∧ E' 35 = .int .i64 3 ∧ E' 36 = .int .i64 6 ∧ E' 37 = .int .i64 2 ∧ E' 38 = .int .i64 14 ∧ E' 40 = .int .i64 4 ∧ E' 41 = .int .i64 n ∧ E' 42 = .int .i64 x154 ∧ E' 43 = .int .i64 x154 ∧ E' 44 = .bool (decide (x154 < 10)) ∧ E' 45 = .agg (t149.map (Value.int .u32)).toArray ∧ (0 ≤ i ∧ i ≤ 16) ∧ Below w.heap.size w w' ∧ Below w12.heap.size w12 w' ∧ Below w150.heap.size w150 w' ∧ w'.ownsRow w150.heap.size 5 1 ov (ser l t149 i.toNat).length ((ser l t149 i.toNat).map byt)) _ ⟨0, .slice none 0 0, rfl, rfl, rfl, (by exact e92), (by exact e91), rfl, rfl, rfl, rfl, rfl, rfl, rfl, rfl, rfl, rfl, rfl, rfl, rfl, rfl, rfl, rfl, rfl, rfl, rfl, rfl, rfl, rfl, rfl, rfl, rfl, rfl, rfl, rfl, rfl, rfl, rfl, rfl, rfl, rfl, rfl, rfl, by omega, B151, B152, (Below.refl _ _), (World.ownsRow_nil _ _ _ _)⟩ ?_
        rintro _ E156 w157 ⟨i, ov, rfl, e158, e159, e160, e161, e162, e163, e164, e165, e166, e167, e168, e169, e170, e171, e172, e173, e174, e175, e176, e177, e178, e179, e180, e181, e182, e183, e184, e185, e186, e187, e188, e189, e190, e191, e192, e193, e194, e195, e196, e197, hi, B198, B199, B200, O201⟩
        refine EC_seq ?_
        refine EC_reg ?_
        refine EL_val (.bool (decide (i < 16))) w157 rfl (r_lss (by exact e158) rfl) ?_
        refine EL_nil ?_
        refine thn_n ?_
        refine EC_seq ?_
        refine EC_if (p := i < 16) rfl (fun h202 => ?_) (fun h202 => ?_)
        · refine EC_skip ?_
          refine thn_n ?_
          refine EC_seq ?_
          refine EC_block ?_
          refine EC_seq ?_
          refine EC_reg ?_
          refine EL_val (.int .i64 i) w157 rfl (r_move (by exact e158)) ?_
          obtain ⟨x203, hx204⟩ := get_some (l := t149) (j := (i : Int).toNat) (by first | omega | (simp; omega) | simp)
          have := ser_len l t149 i.toNat
          have := okt149.get hx204
          refine EL_val (.int .u32 x203) w157 rfl (r_indexV (k := .i64) (by exact e197) (by exact e158) (by omega) (by omega) (by simpa using int_get (k := .u32) hx204) Try.underlying44 (by kernel_rfl) Try.underlying42 rfl) ?_
          refine EL_val (.int .i64 i) w157 rfl (r_assign rfl) ?_
          refine EL_val (.int .u32 x203) w157 rfl (r_assign rfl) ?_
          refine EL_nil ?_
          refine thn_n ?_
          refine EC_seq ?_
          refine EC_reg ?_
          refine EL_val (.int .u32 x203) w157 rfl (r_move rfl) ?_
          refine EL_val (.int .i64 i) w157 rfl (r_move rfl) ?_
          refine EL_val (ptr b11 ((i : Int).toNat)) w157 rfl (r_indexA (i := i) (by exact e160) rfl (by omega) (by omega) Try.underlying44 (by kernel_rfl)) ?_
          obtain ⟨x205, hx206⟩ := get_some (l := l) (j := (i : Int).toNat) (by first | omega | (simp; omega) | simp)
          have := hok.get hx206
          refine EL_val (.int .u32 x205) w157 rfl (r_loadA rfl (A153.below B200) (int_get hx206) Try.underlying42 rfl) ?_
          refine EL_int ((x203 + x205) % 4294967296) rfl (r_addw rfl rfl) ?_
          intro x207 hx207
          refine EL_val (.int .u32 x207) w157 rfl (r_assign rfl) ?_
          refine EL_nil ?_
          refine thn_n ?_
          refine EC_reg ?_
          refine EL_val ov w157 rfl (r_move (by exact e159)) ?_
          refine EL_val (.int .u32 x207) w157 rfl (r_move rfl) ?_
          refine EL_val (.int .u8 (x207 % 256)) w157 rfl (r_convb 42 5 rfl Try.underlying42 Try.underlying5) ?_
          refine EL_val (.int .u32 x207) w157 rfl (r_move rfl) ?_
          refine EL_int (x207 / 256) rfl (r_shri (n := 8) rfl rfl rfl (by decide) (by decide)) ?_
          intro x208 hx208
          refine EL_val (.int .u8 (x208 % 256)) w157 rfl (r_convb 42 5 rfl Try.underlying42 Try.underlying5) ?_
          refine EL_val (.int .u32 x207) w157 rfl (r_move rfl) ?_
          refine EL_int (x207 / 65536) rfl (r_shri (n := 16) rfl rfl rfl (by decide) (by decide)) ?_
          intro x209 hx209
          refine EL_val (.int .u8 (x209 % 256)) w157 rfl (r_convb 42 5 rfl Try.underlying42 Try.underlying5) ?_
          refine EL_val (.int .u32 x207) w157 rfl (r_move rfl) ?_
          refine EL_int (x207 / 16777216) rfl (r_shri (n := 24) rfl rfl rfl (by decide) (by decide)) ?_
          intro x210 hx210
          refine EL_val (.int .u8 (x210 % 256)) w157 rfl (r_convb 42 5 rfl Try.underlying42 Try.underlying5) ?_
          refine EL_lit w157.heap.size #[.int .u8 (x207 % 256), .int .u8 (x208 % 256), .int .u8 (x209 % 256), .int .u8 (x210 % 256)] elB rfl (by decide) rfl (Nat.le_refl _) (by kernel_rfl) ?_
          intro v211 w212 O213 B214 k215 z216
          have B217 : Below w.heap.size w w212 := below_full B198 B198.size B214
          have B218 : Below w12.heap.size w12 w212 := below_full B199 B199.size B214
          have B219 : Below w150.heap.size w150 w212 := below_full B200 B200.size B214
          have B220 : Below w157.heap.size w157 w212 := B214
          have O213' := own_eq (l := [bof x207, bof x208, bof x209, bof x210]) O213 (by simp [bof_val, byt])
          refine EL_append (v := ov) (xs := (ser l t149 i.toNat).map byt) (ys := [bof x207, bof x208, bof x209, bof x210].map byt) w150.heap.size elB rfl rfl rfl (by simpa using (own_below O201 B220)) (own_row O213') (byt_one _) (by first | (simp only [List.length_map, List.length_nil]; omega) | (simp; done) | (simp; omega)) (by decide) B219.size ?_
          intro v221 w222 O223 G224 A225
          have O223' := own_app O223
          have B226 : Below w.heap.size w w222 := below_grew B217 G224 (own_below O201 B220) B151.size (B217.size)
          have B227 : Below w12.heap.size w12 w222 := below_grew B218 G224 (own_below O201 B220) B152.size (B218.size)
          have B228 : Below w150.heap.size w150 w222 := below_grew B219 G224 (own_below O201 B220) (Nat.le_refl _) (B219.size)
          refine EL_val v221 w222 rfl (r_assign rfl) ?_
          refine EL_nil ?_
          refine inB_n ?_
          refine thn_n ?_
          refine EC_reg ?_
          refine EL_int (i + 1) rfl (r_addi (by exact e158) rfl (by omega)) ?_
          intro x231 hx231
          refine EL_val (.int .i64 x231) w222 rfl (r_move rfl) ?_
          refine EL_nil ?_
          refine thn_n ?_
          have es : (ser l t149 i.toNat) ++ [bof x207, bof x208, bof x209, bof x210] = ser l t149 (i + 1).toNat := by
            rw [show (i + 1).toNat = i.toNat + 1 from by omega]
            simp only [ser, List.getD_eq_getElem?_getD, hx204, hx206, Option.getD_some, wb]
            simp only [hx207, hx208, hx209, hx210, hx231, bof_mod]
          refine ⟨_, ?_, x231, v221, rfl, rfl, rfl, (by exact e160), (by exact e161), (by exact e162), (by exact e163), (by exact e164), (by exact e165), (by exact e166), (by exact e167), (by exact e168), (by exact e169), (by exact e170), (by exact e171), (by exact e172), (by exact e173), (by exact e174), (by exact e175), (by exact e176), (by exact e177), (by exact e178), (by exact e179), (by exact e180), (by exact e181), (by exact e182), (by exact e183), (by exact e184), (by exact e185), (by exact e186), (by exact e187), (by exact e188), (by exact e189), (by exact e190), (by exact e191), (by exact e192), (by exact e193), (by exact e194), (by exact e195), (by exact e196), (by exact e197), by omega, B226, B227, B228, by rw [hx231]; exact own_as O223' es⟩
          first | omega | (simp; omega)
        · refine EC_exit ?_
          refine thn_x ?_
          refine thn_x ?_
          refine inB_hit ?_
          refine thn_n ?_
          refine EC_seq ?_
          refine EC_reg ?_
          refine EL_val ov w157 rfl (r_move (by exact e159)) ?_
          refine EL_val ov w157 rfl (r_assign rfl) ?_
          refine EL_nil ?_
          refine thn_n ?_
          refine EC_ret ?_
          refine jmp_r ?_
          refine fin1 Try.results23 (show _ = ov from rfl) ⟨_, rfl, ?_⟩
          have ei : i.toNat = 16 := by omega
          exact ⟨own_as (own_mono O201 B151.size) (by rw [ei, e10]; rfl), B198⟩

set_option maxHeartbeats 2000000 in
theorem check_c (v0 : Value) (k : List UInt8) (c : Int) (v1 : Value) (n : List UInt8) (w : World) (H0 : Bs w v0 k) (H1 : Bs w v1 n) : Ret Try.prog 21 [v0, .int .i64 c, v1] w fun v w' => v = .int .i64 (chk k n c) ∧ w = w' := by
  refine ret_E Try.func21 rfl Try.ntmps21 (by simp) ?_
  refine EC_seq ?_
  refine EC_reg ?_
  refine EL_val (.int .i64 0) w rfl (r_assign rfl) ?_
  refine EL_nil ?_
  refine thn_n ?_
  refine EC_seq ?_
  refine EC_block ?_
  refine EC_seq ?_
  refine EC_reg ?_
  refine EL_val v0 w rfl (r_move rfl) ?_
  refine EL_val (.int .i64 (k.length : Int)) w rfl (lenB (r_len rfl H0 Try.underlying22)) ?_
  refine EL_val (.bool (decide ((k.length : Int) ≠ 32))) w rfl (r_neq rfl rfl) ?_
  refine EL_val (.bool (decide ((k.length : Int) ≠ 32))) w rfl (r_move rfl) ?_
  refine EL_gite 11 rfl rfl rfl v1 rfl (fun g11 => r_move rfl) ?_
  refine EL_gite 11 rfl rfl rfl (.int .i64 (n.length : Int)) rfl (fun g12 => lenB (r_len (cond_of g12 rfl) H1 Try.underlying22)) ?_
  refine EL_gite 11 rfl rfl rfl (.bool (decide ((n.length : Int) ≠ 12))) rfl (fun g13 => r_neq (cond_of g13 rfl) rfl) ?_
  refine EL_val (.bool ((decide ((k.length : Int) ≠ 32)) || (decide ((n.length : Int) ≠ 12)))) w rfl (r_or rfl rfl rfl) ?_
  refine EL_val (.bool ((decide ((k.length : Int) ≠ 32)) || (decide ((n.length : Int) ≠ 12)))) w rfl (r_assign rfl) ?_
  refine EL_nil ?_
  refine thn_n ?_
  refine EC_cond (t := (decide ((k.length : Int) ≠ 32)) || (decide ((n.length : Int) ≠ 12))) rfl (fun h14 => ?_) (fun h14 => ?_)
  · simp at h14
    refine EC_seq ?_
    refine EC_reg ?_
    refine EL_val (.int .i64 11) w rfl (r_assign rfl) ?_
    refine EL_nil ?_
    refine thn_n ?_
    refine EC_ret ?_
    refine inB_r ?_
    refine thn_r ?_
    refine fin1 Try.results21 (show _ = .int .i64 11 from rfl) ⟨_, rfl, ?_⟩
    exact ⟨congrArg (Value.int .i64) (by unfold chk; first | (rw [if_pos (by omega)]; done) | (rw [if_neg (by omega), if_pos (by omega)]; done) | (rw [if_neg (by omega), if_neg (by omega)])), rfl⟩
  · simp at h14
    refine EC_seq ?_
    refine EC_reg ?_
    refine EL_val (.int .i64 c) w rfl (r_move rfl) ?_
    refine EL_val (.bool (decide (c < 0))) w rfl (r_lss rfl rfl) ?_
    refine EL_val (.bool (decide (c < 0))) w rfl (r_move rfl) ?_
    refine EL_gite 19 rfl rfl rfl (.int .i64 c) rfl (fun g15 => r_move rfl) ?_
    refine EL_gite 19 rfl rfl rfl (.bool (decide (4294967295 < c))) rfl (fun g16 => r_gtr (cond_of g16 rfl) rfl) ?_
    refine EL_val (.bool ((decide (c < 0)) || (decide (4294967295 < c)))) w rfl (r_or rfl rfl rfl) ?_
    refine EL_val (.bool ((decide (c < 0)) || (decide (4294967295 < c)))) w rfl (r_assign rfl) ?_
    refine EL_nil ?_
    refine thn_n ?_
    refine EC_cond (t := (decide (c < 0)) || (decide (4294967295 < c))) rfl (fun h17 => ?_) (fun h17 => ?_)
    · simp at h17
      refine EC_seq ?_
      refine EC_reg ?_
      refine EL_val (.int .i64 12) w rfl (r_assign rfl) ?_
      refine EL_nil ?_
      refine thn_n ?_
      refine EC_ret ?_
      refine inB_r ?_
      refine thn_r ?_
      refine fin1 Try.results21 (show _ = .int .i64 12 from rfl) ⟨_, rfl, ?_⟩
      exact ⟨congrArg (Value.int .i64) (by unfold chk; first | (rw [if_pos (by omega)]; done) | (rw [if_neg (by omega), if_pos (by omega)]; done) | (rw [if_neg (by omega), if_neg (by omega)])), rfl⟩
    · simp at h17
      refine EC_skip ?_
      refine inB_n ?_
      refine thn_n ?_
      refine EC_seq ?_
      refine EC_reg ?_
      refine EL_val (.int .i64 0) w rfl (r_assign rfl) ?_
      refine EL_nil ?_
      refine thn_n ?_
      refine EC_ret ?_
      refine fin1 Try.results21 (show _ = .int .i64 0 from rfl) ⟨_, rfl, ?_⟩
      exact ⟨congrArg (Value.int .i64) (by unfold chk; first | (rw [if_pos (by omega)]; done) | (rw [if_neg (by omega), if_pos (by omega)]; done) | (rw [if_neg (by omega), if_neg (by omega)])), rfl⟩

theorem check_at (v0 : Value) (k : List UInt8) (c : Int) (v1 : Value) (n : List UInt8) (w : World) (H0 : Bs w v0 k) (H1 : Bs w v1 n) (e : Int) (he : chk k n c = e) : Ret Try.prog 21 [v0, .int .i64 c, v1] w fun v w' => v = .int .i64 e ∧ w = w' := by
  subst he; exact check_c v0 k c v1 n w H0 H1

end Go.Proofs.Ytlhaojpkejpgfaa
