import Derived.Test.YtlhaojpkejpgfaaChaC
set_option linter.unusedVariables false
set_option linter.unusedSimpArgs false
namespace Go.Proofs.Ytlhaojpkejpgfaa
open Go.RowKit Go.Ecal

set_option maxHeartbeats 2000000 in
theorem rblock_c (v0 : Value) (k : List UInt8) (c : Int) (v1 : Value) (n : List UInt8) (w : World) (H0 : Bs w v0 k) (H1 : Bs w v1 n) (hk : k.length = 32) (hn : n.length = 12) (hc : 0 ≤ c ∧ c < 4294967296) : Ret Try.prog 30 [v0, .int .i64 c, v1] w fun v w' => w'.ownsRow w.heap.size 5 1 v (kb k c n).length ((kb k c n).map byt) ∧ Below w.heap.size w w' := by
  refine ret_E Try.func30 rfl Try.ntmps30 (by simp) ?_
  refine EC_seq ?_
  refine EC_reg ?_
  refine EL_val (.slice none 0 0) w rfl (r_assign rfl) ?_
  refine EL_nil ?_
  refine thn_n ?_
  refine EC_seq ?_
  refine EC_reg ?_
  refine EL_lit w.heap.size #[.int .i64 1634760805, .int .i64 857760878, .int .i64 2036477234, .int .i64 1797285236] el_i64 rfl (by decide) rfl (Nat.le_refl _) (by kernel_rfl) ?_
  intro v11 w12 O13 B14 k15 z16
  have B17 : Below w.heap.size w w12 := B14
  have O13' := own_eqF (f := Value.int .i64) (l := [1634760805, 857760878, 2036477234, 1797285236]) O13 rfl
  refine EL_val v11 w12 rfl (r_assign rfl) ?_
  refine EL_nil ?_
  refine thn_n ?_
  refine EC_seq ?_
  refine EC_seq ?_
  refine EC_reg ?_
  refine EL_val (.int .i64 0) w12 rfl (r_assign rfl) ?_
  refine EL_nil ?_
  refine thn_n ?_
  refine EC_block ?_
  refine EC_for 9 ?_
  refine U_step ?_
  refine EC_seq ?_
  refine EC_seq ?_
  refine EC_reg ?_
  refine EL_val (.int .i64 0) w12 rfl (r_move rfl) ?_
  refine EL_val (.bool true) w12 rfl (r_dec (by decide) (r_lss rfl rfl)) ?_
  refine EL_nil ?_
  refine thn_n ?_
  refine EC_cond_true rfl ?_
  refine EC_skip ?_
  refine thn_n ?_
  refine EC_seq ?_
  refine EC_block ?_
  refine EC_reg ?_
  refine EL_val v11 w12 rfl (r_move rfl) ?_
  refine EL_val v0 w12 rfl (r_move rfl) ?_
  refine EL_val (.int .i64 0) w12 rfl (r_move rfl) ?_
  refine EL_ret [v0, .int .i64 0] rfl Try.func38 rfl nm38 rfl (word_c v0 k 0 w12 (H0.below B17) (by omega) (by omega)) ?_
  rintro _ w18 ⟨rfl, B19⟩
  have B20 : Below w.heap.size w w18 := below_full B17 B17.size B19
  have B21 : Below w12.heap.size w12 w18 := B19
  refine EL_lit w18.heap.size #[.int .i64 (wd k 0)] el_i64 rfl (by decide) rfl (Nat.le_refl _) (by kernel_rfl) ?_
  intro v22 w23 O24 B25 k26 z27
  have B28 : Below w.heap.size w w23 := below_full B20 B20.size B25
  have B29 : Below w12.heap.size w12 w23 := below_full B21 B21.size B25
  have B30 : Below w18.heap.size w18 w23 := B25
  have O24' := own_eqF (f := Value.int .i64) (l := [wd k 0]) O24 rfl
  refine EL_append (v := v11) (xs := [1634760805, 857760878, 2036477234, 1797285236].map (Value.int .i64)) (ys := [wd k 0].map (Value.int .i64)) w.heap.size el_i64 rfl rfl rfl (by simpa using (own_below O13' B29)) (own_row O24') (int_one _) (by first | (simp only [List.length_map, List.length_nil]; omega) | (simp only [List.length_map, List.length_cons, List.length_nil]; omega) | (simp; done) | (simp; omega)) (by decide) B28.size ?_
  intro v31 w32 O33 G34 A35
  have O33' := own_appF O33
  have B36 : Below w.heap.size w w32 := below_grew B28 G34 (own_below O13' B29) (Nat.le_refl _) (B28.size)
  refine EL_val v31 w32 rfl (r_assign rfl) ?_
  refine EL_nil ?_
  refine inB_n ?_
  refine thn_n ?_
  refine EC_reg ?_
  refine EL_val (.int .i64 0) w32 rfl (r_move rfl) ?_
  refine EL_val (.int .i64 4) w32 rfl (r_asn (by kernel_rfl) (r_add rfl rfl)) ?_
  refine EL_val (.int .i64 4) w32 rfl (r_assign rfl) ?_
  refine EL_nil ?_
  refine thn_n ?_
  refine U_step ?_
  refine EC_seq ?_
  refine EC_seq ?_
  refine EC_reg ?_
  refine EL_val (.int .i64 4) w32 rfl (r_move rfl) ?_
  refine EL_val (.bool true) w32 rfl (r_dec (by decide) (r_lss rfl rfl)) ?_
  refine EL_nil ?_
  refine thn_n ?_
  refine EC_cond_true rfl ?_
  refine EC_skip ?_
  refine thn_n ?_
  refine EC_seq ?_
  refine EC_block ?_
  refine EC_reg ?_
  refine EL_val v31 w32 rfl (r_move rfl) ?_
  refine EL_val v0 w32 rfl (r_move rfl) ?_
  refine EL_val (.int .i64 4) w32 rfl (r_move rfl) ?_
  refine EL_ret [v0, .int .i64 4] rfl Try.func38 rfl nm38 rfl (word_c v0 k 4 w32 (H0.below B36) (by omega) (by omega)) ?_
  rintro _ w40 ⟨rfl, B41⟩
  have B42 : Below w.heap.size w w40 := below_full B36 B36.size B41
  have B43 : Below w32.heap.size w32 w40 := B41
  refine EL_lit w40.heap.size #[.int .i64 (wd k 4)] el_i64 rfl (by decide) rfl (Nat.le_refl _) (by kernel_rfl) ?_
  intro v44 w45 O46 B47 k48 z49
  have B50 : Below w.heap.size w w45 := below_full B42 B42.size B47
  have B51 : Below w32.heap.size w32 w45 := below_full B43 B43.size B47
  have B52 : Below w40.heap.size w40 w45 := B47
  have O46' := own_eqF (f := Value.int .i64) (l := [wd k 4]) O46 rfl
  refine EL_append (v := v31) (xs := ([1634760805, 857760878, 2036477234, 1797285236] ++ [wd k 0]).map (Value.int .i64)) (ys := [wd k 4].map (Value.int .i64)) w.heap.size el_i64 rfl rfl rfl (by simpa using (own_below O33' B51)) (own_row O46') (int_one _) (by first | (simp only [List.length_map, List.length_nil]; omega) | (simp only [List.length_map, List.length_cons, List.length_nil]; omega) | (simp; done) | (simp; omega)) (by decide) B50.size ?_
  intro v53 w54 O55 G56 A57
  have O55' := own_appF O55
  have B58 : Below w.heap.size w w54 := below_grew B50 G56 (own_below O33' B51) (Nat.le_refl _) (B50.size)
  refine EL_val v53 w54 rfl (r_assign rfl) ?_
  refine EL_nil ?_
  refine inB_n ?_
  refine thn_n ?_
  refine EC_reg ?_
  refine EL_val (.int .i64 4) w54 rfl (r_move rfl) ?_
  refine EL_val (.int .i64 8) w54 rfl (r_asn (by kernel_rfl) (r_add rfl rfl)) ?_
  refine EL_val (.int .i64 8) w54 rfl (r_assign rfl) ?_
  refine EL_nil ?_
  refine thn_n ?_
  refine U_step ?_
  refine EC_seq ?_
  refine EC_seq ?_
  refine EC_reg ?_
  refine EL_val (.int .i64 8) w54 rfl (r_move rfl) ?_
  refine EL_val (.bool true) w54 rfl (r_dec (by decide) (r_lss rfl rfl)) ?_
  refine EL_nil ?_
  refine thn_n ?_
  refine EC_cond_true rfl ?_
  refine EC_skip ?_
  refine thn_n ?_
  refine EC_seq ?_
  refine EC_block ?_
  refine EC_reg ?_
  refine EL_val v53 w54 rfl (r_move rfl) ?_
  refine EL_val v0 w54 rfl (r_move rfl) ?_
  refine EL_val (.int .i64 8) w54 rfl (r_move rfl) ?_
  refine EL_ret [v0, .int .i64 8] rfl Try.func38 rfl nm38 rfl (word_c v0 k 8 w54 (H0.below B58) (by omega) (by omega)) ?_
  rintro _ w62 ⟨rfl, B63⟩
  have B64 : Below w.heap.size w w62 := below_full B58 B58.size B63
  have B65 : Below w54.heap.size w54 w62 := B63
  refine EL_lit w62.heap.size #[.int .i64 (wd k 8)] el_i64 rfl (by decide) rfl (Nat.le_refl _) (by kernel_rfl) ?_
  intro v66 w67 O68 B69 k70 z71
  have B72 : Below w.heap.size w w67 := below_full B64 B64.size B69
  have B73 : Below w54.heap.size w54 w67 := below_full B65 B65.size B69
  have B74 : Below w62.heap.size w62 w67 := B69
  have O68' := own_eqF (f := Value.int .i64) (l := [wd k 8]) O68 rfl
  refine EL_append (v := v53) (xs := (([1634760805, 857760878, 2036477234, 1797285236] ++ [wd k 0]) ++ [wd k 4]).map (Value.int .i64)) (ys := [wd k 8].map (Value.int .i64)) w.heap.size el_i64 rfl rfl rfl (by simpa using (own_below O55' B73)) (own_row O68') (int_one _) (by first | (simp only [List.length_map, List.length_nil]; omega) | (simp only [List.length_map, List.length_cons, List.length_nil]; omega) | (simp; done) | (simp; omega)) (by decide) B72.size ?_
  intro v75 w76 O77 G78 A79
  have O77' := own_appF O77
  have B80 : Below w.heap.size w w76 := below_grew B72 G78 (own_below O55' B73) (Nat.le_refl _) (B72.size)
  refine EL_val v75 w76 rfl (r_assign rfl) ?_
  refine EL_nil ?_
  refine inB_n ?_
  refine thn_n ?_
  refine EC_reg ?_
  refine EL_val (.int .i64 8) w76 rfl (r_move rfl) ?_
  refine EL_val (.int .i64 12) w76 rfl (r_asn (by kernel_rfl) (r_add rfl rfl)) ?_
  refine EL_val (.int .i64 12) w76 rfl (r_assign rfl) ?_
  refine EL_nil ?_
  refine thn_n ?_
  refine U_step ?_
  refine EC_seq ?_
  refine EC_seq ?_
  refine EC_reg ?_
  refine EL_val (.int .i64 12) w76 rfl (r_move rfl) ?_
  refine EL_val (.bool true) w76 rfl (r_dec (by decide) (r_lss rfl rfl)) ?_
  refine EL_nil ?_
  refine thn_n ?_
  refine EC_cond_true rfl ?_
  refine EC_skip ?_
  refine thn_n ?_
  refine EC_seq ?_
  refine EC_block ?_
  refine EC_reg ?_
  refine EL_val v75 w76 rfl (r_move rfl) ?_
  refine EL_val v0 w76 rfl (r_move rfl) ?_
  refine EL_val (.int .i64 12) w76 rfl (r_move rfl) ?_
  refine EL_ret [v0, .int .i64 12] rfl Try.func38 rfl nm38 rfl (word_c v0 k 12 w76 (H0.below B80) (by omega) (by omega)) ?_
  rintro _ w84 ⟨rfl, B85⟩
  have B86 : Below w.heap.size w w84 := below_full B80 B80.size B85
  have B87 : Below w76.heap.size w76 w84 := B85
  refine EL_lit w84.heap.size #[.int .i64 (wd k 12)] el_i64 rfl (by decide) rfl (Nat.le_refl _) (by kernel_rfl) ?_
  intro v88 w89 O90 B91 k92 z93
  have B94 : Below w.heap.size w w89 := below_full B86 B86.size B91
  have B95 : Below w76.heap.size w76 w89 := below_full B87 B87.size B91
  have B96 : Below w84.heap.size w84 w89 := B91
  have O90' := own_eqF (f := Value.int .i64) (l := [wd k 12]) O90 rfl
  refine EL_append (v := v75) (xs := ((([1634760805, 857760878, 2036477234, 1797285236] ++ [wd k 0]) ++ [wd k 4]) ++ [wd k 8]).map (Value.int .i64)) (ys := [wd k 12].map (Value.int .i64)) w.heap.size el_i64 rfl rfl rfl (by simpa using (own_below O77' B95)) (own_row O90') (int_one _) (by first | (simp only [List.length_map, List.length_nil]; omega) | (simp only [List.length_map, List.length_cons, List.length_nil]; omega) | (simp; done) | (simp; omega)) (by decide) B94.size ?_
  intro v97 w98 O99 G100 A101
  have O99' := own_appF O99
  have B102 : Below w.heap.size w w98 := below_grew B94 G100 (own_below O77' B95) (Nat.le_refl _) (B94.size)
  refine EL_val v97 w98 rfl (r_assign rfl) ?_
  refine EL_nil ?_
  refine inB_n ?_
  refine thn_n ?_
  refine EC_reg ?_
  refine EL_val (.int .i64 12) w98 rfl (r_move rfl) ?_
  refine EL_val (.int .i64 16) w98 rfl (r_asn (by kernel_rfl) (r_add rfl rfl)) ?_
  refine EL_val (.int .i64 16) w98 rfl (r_assign rfl) ?_
  refine EL_nil ?_
  refine thn_n ?_
  refine U_step ?_
  refine EC_seq ?_
  refine EC_seq ?_
  refine EC_reg ?_
  refine EL_val (.int .i64 16) w98 rfl (r_move rfl) ?_
  refine EL_val (.bool true) w98 rfl (r_dec (by decide) (r_lss rfl rfl)) ?_
  refine EL_nil ?_
  refine thn_n ?_
  refine EC_cond_true rfl ?_
  refine EC_skip ?_
  refine thn_n ?_
  refine EC_seq ?_
  refine EC_block ?_
  refine EC_reg ?_
  refine EL_val v97 w98 rfl (r_move rfl) ?_
  refine EL_val v0 w98 rfl (r_move rfl) ?_
  refine EL_val (.int .i64 16) w98 rfl (r_move rfl) ?_
  refine EL_ret [v0, .int .i64 16] rfl Try.func38 rfl nm38 rfl (word_c v0 k 16 w98 (H0.below B102) (by omega) (by omega)) ?_
  rintro _ w106 ⟨rfl, B107⟩
  have B108 : Below w.heap.size w w106 := below_full B102 B102.size B107
  have B109 : Below w98.heap.size w98 w106 := B107
  refine EL_lit w106.heap.size #[.int .i64 (wd k 16)] el_i64 rfl (by decide) rfl (Nat.le_refl _) (by kernel_rfl) ?_
  intro v110 w111 O112 B113 k114 z115
  have B116 : Below w.heap.size w w111 := below_full B108 B108.size B113
  have B117 : Below w98.heap.size w98 w111 := below_full B109 B109.size B113
  have B118 : Below w106.heap.size w106 w111 := B113
  have O112' := own_eqF (f := Value.int .i64) (l := [wd k 16]) O112 rfl
  refine EL_append (v := v97) (xs := (((([1634760805, 857760878, 2036477234, 1797285236] ++ [wd k 0]) ++ [wd k 4]) ++ [wd k 8]) ++ [wd k 12]).map (Value.int .i64)) (ys := [wd k 16].map (Value.int .i64)) w.heap.size el_i64 rfl rfl rfl (by simpa using (own_below O99' B117)) (own_row O112') (int_one _) (by first | (simp only [List.length_map, List.length_nil]; omega) | (simp only [List.length_map, List.length_cons, List.length_nil]; omega) | (simp; done) | (simp; omega)) (by decide) B116.size ?_
  intro v119 w120 O121 G122 A123
  have O121' := own_appF O121
  have B124 : Below w.heap.size w w120 := below_grew B116 G122 (own_below O99' B117) (Nat.le_refl _) (B116.size)
  refine EL_val v119 w120 rfl (r_assign rfl) ?_
  refine EL_nil ?_
  refine inB_n ?_
  refine thn_n ?_
  refine EC_reg ?_
  refine EL_val (.int .i64 16) w120 rfl (r_move rfl) ?_
  refine EL_val (.int .i64 20) w120 rfl (r_asn (by kernel_rfl) (r_add rfl rfl)) ?_
  refine EL_val (.int .i64 20) w120 rfl (r_assign rfl) ?_
  refine EL_nil ?_
  refine thn_n ?_
  refine U_step ?_
  refine EC_seq ?_
  refine EC_seq ?_
  refine EC_reg ?_
  refine EL_val (.int .i64 20) w120 rfl (r_move rfl) ?_
  refine EL_val (.bool true) w120 rfl (r_dec (by decide) (r_lss rfl rfl)) ?_
  refine EL_nil ?_
  refine thn_n ?_
  refine EC_cond_true rfl ?_
  refine EC_skip ?_
  refine thn_n ?_
  refine EC_seq ?_
  refine EC_block ?_
  refine EC_reg ?_
  refine EL_val v119 w120 rfl (r_move rfl) ?_
  refine EL_val v0 w120 rfl (r_move rfl) ?_
  refine EL_val (.int .i64 20) w120 rfl (r_move rfl) ?_
  refine EL_ret [v0, .int .i64 20] rfl Try.func38 rfl nm38 rfl (word_c v0 k 20 w120 (H0.below B124) (by omega) (by omega)) ?_
  rintro _ w128 ⟨rfl, B129⟩
  have B130 : Below w.heap.size w w128 := below_full B124 B124.size B129
  have B131 : Below w120.heap.size w120 w128 := B129
  refine EL_lit w128.heap.size #[.int .i64 (wd k 20)] el_i64 rfl (by decide) rfl (Nat.le_refl _) (by kernel_rfl) ?_
  intro v132 w133 O134 B135 k136 z137
  have B138 : Below w.heap.size w w133 := below_full B130 B130.size B135
  have B139 : Below w120.heap.size w120 w133 := below_full B131 B131.size B135
  have B140 : Below w128.heap.size w128 w133 := B135
  have O134' := own_eqF (f := Value.int .i64) (l := [wd k 20]) O134 rfl
  refine EL_append (v := v119) (xs := ((((([1634760805, 857760878, 2036477234, 1797285236] ++ [wd k 0]) ++ [wd k 4]) ++ [wd k 8]) ++ [wd k 12]) ++ [wd k 16]).map (Value.int .i64)) (ys := [wd k 20].map (Value.int .i64)) w.heap.size el_i64 rfl rfl rfl (by simpa using (own_below O121' B139)) (own_row O134') (int_one _) (by first | (simp only [List.length_map, List.length_nil]; omega) | (simp only [List.length_map, List.length_cons, List.length_nil]; omega) | (simp; done) | (simp; omega)) (by decide) B138.size ?_
  intro v141 w142 O143 G144 A145
  have O143' := own_appF O143
  have B146 : Below w.heap.size w w142 := below_grew B138 G144 (own_below O121' B139) (Nat.le_refl _) (B138.size)
  refine EL_val v141 w142 rfl (r_assign rfl) ?_
  refine EL_nil ?_
  refine inB_n ?_
  refine thn_n ?_
  refine EC_reg ?_
  refine EL_val (.int .i64 20) w142 rfl (r_move rfl) ?_
  refine EL_val (.int .i64 24) w142 rfl (r_asn (by kernel_rfl) (r_add rfl rfl)) ?_
  refine EL_val (.int .i64 24) w142 rfl (r_assign rfl) ?_
  refine EL_nil ?_
  refine thn_n ?_
  refine U_step ?_
  refine EC_seq ?_
  refine EC_seq ?_
  refine EC_reg ?_
  refine EL_val (.int .i64 24) w142 rfl (r_move rfl) ?_
  refine EL_val (.bool true) w142 rfl (r_dec (by decide) (r_lss rfl rfl)) ?_
  refine EL_nil ?_
  refine thn_n ?_
  refine EC_cond_true rfl ?_
  refine EC_skip ?_
  refine thn_n ?_
  refine EC_seq ?_
  refine EC_block ?_
  refine EC_reg ?_
  refine EL_val v141 w142 rfl (r_move rfl) ?_
  refine EL_val v0 w142 rfl (r_move rfl) ?_
  refine EL_val (.int .i64 24) w142 rfl (r_move rfl) ?_
  refine EL_ret [v0, .int .i64 24] rfl Try.func38 rfl nm38 rfl (word_c v0 k 24 w142 (H0.below B146) (by omega) (by omega)) ?_
  rintro _ w150 ⟨rfl, B151⟩
  have B152 : Below w.heap.size w w150 := below_full B146 B146.size B151
  have B153 : Below w142.heap.size w142 w150 := B151
  refine EL_lit w150.heap.size #[.int .i64 (wd k 24)] el_i64 rfl (by decide) rfl (Nat.le_refl _) (by kernel_rfl) ?_
  intro v154 w155 O156 B157 k158 z159
  have B160 : Below w.heap.size w w155 := below_full B152 B152.size B157
  have B161 : Below w142.heap.size w142 w155 := below_full B153 B153.size B157
  have B162 : Below w150.heap.size w150 w155 := B157
  have O156' := own_eqF (f := Value.int .i64) (l := [wd k 24]) O156 rfl
  refine EL_append (v := v141) (xs := (((((([1634760805, 857760878, 2036477234, 1797285236] ++ [wd k 0]) ++ [wd k 4]) ++ [wd k 8]) ++ [wd k 12]) ++ [wd k 16]) ++ [wd k 20]).map (Value.int .i64)) (ys := [wd k 24].map (Value.int .i64)) w.heap.size el_i64 rfl rfl rfl (by simpa using (own_below O143' B161)) (own_row O156') (int_one _) (by first | (simp only [List.length_map, List.length_nil]; omega) | (simp only [List.length_map, List.length_cons, List.length_nil]; omega) | (simp; done) | (simp; omega)) (by decide) B160.size ?_
  intro v163 w164 O165 G166 A167
  have O165' := own_appF O165
  have B168 : Below w.heap.size w w164 := below_grew B160 G166 (own_below O143' B161) (Nat.le_refl _) (B160.size)
  refine EL_val v163 w164 rfl (r_assign rfl) ?_
  refine EL_nil ?_
  refine inB_n ?_
  refine thn_n ?_
  refine EC_reg ?_
  refine EL_val (.int .i64 24) w164 rfl (r_move rfl) ?_
  refine EL_val (.int .i64 28) w164 rfl (r_asn (by kernel_rfl) (r_add rfl rfl)) ?_
  refine EL_val (.int .i64 28) w164 rfl (r_assign rfl) ?_
  refine EL_nil ?_
  refine thn_n ?_
  refine U_step ?_
  refine EC_seq ?_
  refine EC_seq ?_
  refine EC_reg ?_
  refine EL_val (.int .i64 28) w164 rfl (r_move rfl) ?_
  refine EL_val (.bool true) w164 rfl (r_dec (by decide) (r_lss rfl rfl)) ?_
  refine EL_nil ?_
  refine thn_n ?_
  refine EC_cond_true rfl ?_
  refine EC_skip ?_
  refine thn_n ?_
  refine EC_seq ?_
  refine EC_block ?_
  refine EC_reg ?_
  refine EL_val v163 w164 rfl (r_move rfl) ?_
  refine EL_val v0 w164 rfl (r_move rfl) ?_
  refine EL_val (.int .i64 28) w164 rfl (r_move rfl) ?_
  refine EL_ret [v0, .int .i64 28] rfl Try.func38 rfl nm38 rfl (word_c v0 k 28 w164 (H0.below B168) (by omega) (by omega)) ?_
  rintro _ w172 ⟨rfl, B173⟩
  have B174 : Below w.heap.size w w172 := below_full B168 B168.size B173
  have B175 : Below w164.heap.size w164 w172 := B173
  refine EL_lit w172.heap.size #[.int .i64 (wd k 28)] el_i64 rfl (by decide) rfl (Nat.le_refl _) (by kernel_rfl) ?_
  intro v176 w177 O178 B179 k180 z181
  have B182 : Below w.heap.size w w177 := below_full B174 B174.size B179
  have B183 : Below w164.heap.size w164 w177 := below_full B175 B175.size B179
  have B184 : Below w172.heap.size w172 w177 := B179
  have O178' := own_eqF (f := Value.int .i64) (l := [wd k 28]) O178 rfl
  refine EL_append (v := v163) (xs := ((((((([1634760805, 857760878, 2036477234, 1797285236] ++ [wd k 0]) ++ [wd k 4]) ++ [wd k 8]) ++ [wd k 12]) ++ [wd k 16]) ++ [wd k 20]) ++ [wd k 24]).map (Value.int .i64)) (ys := [wd k 28].map (Value.int .i64)) w.heap.size el_i64 rfl rfl rfl (by simpa using (own_below O165' B183)) (own_row O178') (int_one _) (by first | (simp only [List.length_map, List.length_nil]; omega) | (simp only [List.length_map, List.length_cons, List.length_nil]; omega) | (simp; done) | (simp; omega)) (by decide) B182.size ?_
  intro v185 w186 O187 G188 A189
  have O187' := own_appF O187
  have B190 : Below w.heap.size w w186 := below_grew B182 G188 (own_below O165' B183) (Nat.le_refl _) (B182.size)
  refine EL_val v185 w186 rfl (r_assign rfl) ?_
  refine EL_nil ?_
  refine inB_n ?_
  refine thn_n ?_
  refine EC_reg ?_
  refine EL_val (.int .i64 28) w186 rfl (r_move rfl) ?_
  refine EL_val (.int .i64 32) w186 rfl (r_asn (by kernel_rfl) (r_add rfl rfl)) ?_
  refine EL_val (.int .i64 32) w186 rfl (r_assign rfl) ?_
  refine EL_nil ?_
  refine thn_n ?_
  refine U_step ?_
  refine EC_seq ?_
  refine EC_seq ?_
  refine EC_reg ?_
  refine EL_val (.int .i64 32) w186 rfl (r_move rfl) ?_
  refine EL_val (.bool false) w186 rfl (r_dec (by decide) (r_lss rfl rfl)) ?_
  refine EL_nil ?_
  refine thn_n ?_
  refine EC_cond_false rfl ?_
  refine EC_exit ?_
  refine thn_x ?_
  refine thn_x ?_
  refine inB_hit ?_
  refine thn_n ?_
  refine EC_seq ?_
  refine EC_reg ?_
  refine EL_val v185 w186 rfl (r_move rfl) ?_
  refine EL_val (.int .i64 c) w186 rfl (r_move rfl) ?_
  refine EL_lit w186.heap.size #[.int .i64 c] el_i64 rfl (by decide) rfl (Nat.le_refl _) (by kernel_rfl) ?_
  intro v194 w195 O196 B197 k198 z199
  have B200 : Below w.heap.size w w195 := below_full B190 B190.size B197
  have B201 : Below w186.heap.size w186 w195 := B197
  have O196' := own_eqF (f := Value.int .i64) (l := [c]) O196 rfl
  refine EL_append (v := v185) (xs := (((((((([1634760805, 857760878, 2036477234, 1797285236] ++ [wd k 0]) ++ [wd k 4]) ++ [wd k 8]) ++ [wd k 12]) ++ [wd k 16]) ++ [wd k 20]) ++ [wd k 24]) ++ [wd k 28]).map (Value.int .i64)) (ys := [c].map (Value.int .i64)) w.heap.size el_i64 rfl rfl rfl (by simpa using (own_below O187' B201)) (own_row O196') (int_one _) (by first | (simp only [List.length_map, List.length_nil]; omega) | (simp only [List.length_map, List.length_cons, List.length_nil]; omega) | (simp; done) | (simp; omega)) (by decide) B200.size ?_
  intro v202 w203 O204 G205 A206
  have O204' := own_appF O204
  have B207 : Below w.heap.size w w203 := below_grew B200 G205 (own_below O187' B201) (Nat.le_refl _) (B200.size)
  refine EL_val v202 w203 rfl (r_assign rfl) ?_
  refine EL_nil ?_
  refine thn_n ?_
  refine EC_seq ?_
  refine EC_seq ?_
  refine EC_reg ?_
  refine EL_val (.int .i64 0) w203 rfl (r_assign rfl) ?_
  refine EL_nil ?_
  refine thn_n ?_
  refine EC_block ?_
  refine EC_for 4 ?_
  refine U_step ?_
  refine EC_seq ?_
  refine EC_seq ?_
  refine EC_reg ?_
  refine EL_val (.int .i64 0) w203 rfl (r_move rfl) ?_
  refine EL_val (.bool true) w203 rfl (r_dec (by decide) (r_lss rfl rfl)) ?_
  refine EL_nil ?_
  refine thn_n ?_
  refine EC_cond_true rfl ?_
  refine EC_skip ?_
  refine thn_n ?_
  refine EC_seq ?_
  refine EC_block ?_
  refine EC_reg ?_
  refine EL_val v202 w203 rfl (r_move rfl) ?_
  refine EL_val v1 w203 rfl (r_move rfl) ?_
  refine EL_val (.int .i64 0) w203 rfl (r_move rfl) ?_
  refine EL_ret [v1, .int .i64 0] rfl Try.func38 rfl nm38 rfl (word_c v1 n 0 w203 (H1.below B207) (by omega) (by omega)) ?_
  rintro _ w210 ⟨rfl, B211⟩
  have B212 : Below w.heap.size w w210 := below_full B207 B207.size B211
  have B213 : Below w203.heap.size w203 w210 := B211
  refine EL_lit w210.heap.size #[.int .i64 (wd n 0)] el_i64 rfl (by decide) rfl (Nat.le_refl _) (by kernel_rfl) ?_
  intro v214 w215 O216 B217 k218 z219
  have B220 : Below w.heap.size w w215 := below_full B212 B212.size B217
  have B221 : Below w203.heap.size w203 w215 := below_full B213 B213.size B217
  have B222 : Below w210.heap.size w210 w215 := B217
  have O216' := own_eqF (f := Value.int .i64) (l := [wd n 0]) O216 rfl
  refine EL_append (v := v202) (xs := ((((((((([1634760805, 857760878, 2036477234, 1797285236] ++ [wd k 0]) ++ [wd k 4]) ++ [wd k 8]) ++ [wd k 12]) ++ [wd k 16]) ++ [wd k 20]) ++ [wd k 24]) ++ [wd k 28]) ++ [c]).map (Value.int .i64)) (ys := [wd n 0].map (Value.int .i64)) w.heap.size el_i64 rfl rfl rfl (by simpa using (own_below O204' B221)) (own_row O216') (int_one _) (by first | (simp only [List.length_map, List.length_nil]; omega) | (simp only [List.length_map, List.length_cons, List.length_nil]; omega) | (simp; done) | (simp; omega)) (by decide) B220.size ?_
  intro v223 w224 O225 G226 A227
  have O225' := own_appF O225
  have B228 : Below w.heap.size w w224 := below_grew B220 G226 (own_below O204' B221) (Nat.le_refl _) (B220.size)
  refine EL_val v223 w224 rfl (r_assign rfl) ?_
  refine EL_nil ?_
  refine inB_n ?_
  refine thn_n ?_
  refine EC_reg ?_
  refine EL_val (.int .i64 0) w224 rfl (r_move rfl) ?_
  refine EL_val (.int .i64 4) w224 rfl (r_asn (by kernel_rfl) (r_add rfl rfl)) ?_
  refine EL_val (.int .i64 4) w224 rfl (r_assign rfl) ?_
  refine EL_nil ?_
  refine thn_n ?_
  refine U_step ?_
  refine EC_seq ?_
  refine EC_seq ?_
  refine EC_reg ?_
  refine EL_val (.int .i64 4) w224 rfl (r_move rfl) ?_
  refine EL_val (.bool true) w224 rfl (r_dec (by decide) (r_lss rfl rfl)) ?_
  refine EL_nil ?_
  refine thn_n ?_
  refine EC_cond_true rfl ?_
  refine EC_skip ?_
  refine thn_n ?_
  refine EC_seq ?_
  refine EC_block ?_
  refine EC_reg ?_
  refine EL_val v223 w224 rfl (r_move rfl) ?_
  refine EL_val v1 w224 rfl (r_move rfl) ?_
  refine EL_val (.int .i64 4) w224 rfl (r_move rfl) ?_
  refine EL_ret [v1, .int .i64 4] rfl Try.func38 rfl nm38 rfl (word_c v1 n 4 w224 (H1.below B228) (by omega) (by omega)) ?_
  rintro _ w232 ⟨rfl, B233⟩
  have B234 : Below w.heap.size w w232 := below_full B228 B228.size B233
  have B235 : Below w224.heap.size w224 w232 := B233
  refine EL_lit w232.heap.size #[.int .i64 (wd n 4)] el_i64 rfl (by decide) rfl (Nat.le_refl _) (by kernel_rfl) ?_
  intro v236 w237 O238 B239 k240 z241
  have B242 : Below w.heap.size w w237 := below_full B234 B234.size B239
  have B243 : Below w224.heap.size w224 w237 := below_full B235 B235.size B239
  have B244 : Below w232.heap.size w232 w237 := B239
  have O238' := own_eqF (f := Value.int .i64) (l := [wd n 4]) O238 rfl
  refine EL_append (v := v223) (xs := (((((((((([1634760805, 857760878, 2036477234, 1797285236] ++ [wd k 0]) ++ [wd k 4]) ++ [wd k 8]) ++ [wd k 12]) ++ [wd k 16]) ++ [wd k 20]) ++ [wd k 24]) ++ [wd k 28]) ++ [c]) ++ [wd n 0]).map (Value.int .i64)) (ys := [wd n 4].map (Value.int .i64)) w.heap.size el_i64 rfl rfl rfl (by simpa using (own_below O225' B243)) (own_row O238') (int_one _) (by first | (simp only [List.length_map, List.length_nil]; omega) | (simp only [List.length_map, List.length_cons, List.length_nil]; omega) | (simp; done) | (simp; omega)) (by decide) B242.size ?_
  intro v245 w246 O247 G248 A249
  have O247' := own_appF O247
  have B250 : Below w.heap.size w w246 := below_grew B242 G248 (own_below O225' B243) (Nat.le_refl _) (B242.size)
  refine EL_val v245 w246 rfl (r_assign rfl) ?_
  refine EL_nil ?_
  refine inB_n ?_
  refine thn_n ?_
  refine EC_reg ?_
  refine EL_val (.int .i64 4) w246 rfl (r_move rfl) ?_
  refine EL_val (.int .i64 8) w246 rfl (r_asn (by kernel_rfl) (r_add rfl rfl)) ?_
  refine EL_val (.int .i64 8) w246 rfl (r_assign rfl) ?_
  refine EL_nil ?_
  refine thn_n ?_
  refine U_step ?_
  refine EC_seq ?_
  refine EC_seq ?_
  refine EC_reg ?_
  refine EL_val (.int .i64 8) w246 rfl (r_move rfl) ?_
  refine EL_val (.bool true) w246 rfl (r_dec (by decide) (r_lss rfl rfl)) ?_
  refine EL_nil ?_
  refine thn_n ?_
  refine EC_cond_true rfl ?_
  refine EC_skip ?_
  refine thn_n ?_
  refine EC_seq ?_
  refine EC_block ?_
  refine EC_reg ?_
  refine EL_val v245 w246 rfl (r_move rfl) ?_
  refine EL_val v1 w246 rfl (r_move rfl) ?_
  refine EL_val (.int .i64 8) w246 rfl (r_move rfl) ?_
  refine EL_ret [v1, .int .i64 8] rfl Try.func38 rfl nm38 rfl (word_c v1 n 8 w246 (H1.below B250) (by omega) (by omega)) ?_
  rintro _ w254 ⟨rfl, B255⟩
  have B256 : Below w.heap.size w w254 := below_full B250 B250.size B255
  have B257 : Below w246.heap.size w246 w254 := B255
  refine EL_lit w254.heap.size #[.int .i64 (wd n 8)] el_i64 rfl (by decide) rfl (Nat.le_refl _) (by kernel_rfl) ?_
  intro v258 w259 O260 B261 k262 z263
  have B264 : Below w.heap.size w w259 := below_full B256 B256.size B261
  have B265 : Below w246.heap.size w246 w259 := below_full B257 B257.size B261
  have B266 : Below w254.heap.size w254 w259 := B261
  have O260' := own_eqF (f := Value.int .i64) (l := [wd n 8]) O260 rfl
  refine EL_append (v := v245) (xs := ((((((((((([1634760805, 857760878, 2036477234, 1797285236] ++ [wd k 0]) ++ [wd k 4]) ++ [wd k 8]) ++ [wd k 12]) ++ [wd k 16]) ++ [wd k 20]) ++ [wd k 24]) ++ [wd k 28]) ++ [c]) ++ [wd n 0]) ++ [wd n 4]).map (Value.int .i64)) (ys := [wd n 8].map (Value.int .i64)) w.heap.size el_i64 rfl rfl rfl (by simpa using (own_below O247' B265)) (own_row O260') (int_one _) (by first | (simp only [List.length_map, List.length_nil]; omega) | (simp only [List.length_map, List.length_cons, List.length_nil]; omega) | (simp; done) | (simp; omega)) (by decide) B264.size ?_
  intro v267 w268 O269 G270 A271
  have O269' := own_appF O269
  have B272 : Below w.heap.size w w268 := below_grew B264 G270 (own_below O247' B265) (Nat.le_refl _) (B264.size)
  refine EL_val v267 w268 rfl (r_assign rfl) ?_
  refine EL_nil ?_
  refine inB_n ?_
  refine thn_n ?_
  refine EC_reg ?_
  refine EL_val (.int .i64 8) w268 rfl (r_move rfl) ?_
  refine EL_val (.int .i64 12) w268 rfl (r_asn (by kernel_rfl) (r_add rfl rfl)) ?_
  refine EL_val (.int .i64 12) w268 rfl (r_assign rfl) ?_
  refine EL_nil ?_
  refine thn_n ?_
  refine U_step ?_
  refine EC_seq ?_
  refine EC_seq ?_
  refine EC_reg ?_
  refine EL_val (.int .i64 12) w268 rfl (r_move rfl) ?_
  refine EL_val (.bool false) w268 rfl (r_dec (by decide) (r_lss rfl rfl)) ?_
  refine EL_nil ?_
  refine thn_n ?_
  refine EC_cond_false rfl ?_
  refine EC_exit ?_
  refine thn_x ?_
  refine thn_x ?_
  refine inB_hit ?_
  refine thn_n ?_
  refine EC_seq ?_
  refine EC_reg ?_
  have stl : (st k c n).length = 16 := rfl
  have O276 := own_asF O269' (show ((((((((((([1634760805, 857760878, 2036477234, 1797285236] ++ [wd k 0]) ++ [wd k 4]) ++ [wd k 8]) ++ [wd k 12]) ++ [wd k 16]) ++ [wd k 20]) ++ [wd k 24]) ++ [wd k 28]) ++ [c]) ++ [wd n 0]) ++ [wd n 4]) ++ [wd n 8] = st k c n from rfl)
  refine EL_lit w268.heap.size #[] el_i64 rfl (by decide) rfl (Nat.le_refl _) (by kernel_rfl) ?_
  intro v277 w278 O279 B280 k281 z282
  have B283 : Below w.heap.size w w278 := below_full B272 B272.size B280
  have B284 : Below w268.heap.size w268 w278 := B280
  have O279' := own_eqF (f := Value.int .i64) (l := ([] : List Int)) O279 rfl
  refine EL_val v267 w278 rfl (r_move rfl) ?_
  refine EL_append (v := v277) (xs := ([] : List Int).map (Value.int .i64)) (ys := (st k c n).map (Value.int .i64)) w268.heap.size el_i64 rfl rfl rfl (by simpa using O279') ((own_row O276).below B284) (int_one _) (by first | (simp only [List.length_map, List.length_nil]; omega) | (simp only [List.length_map, List.length_cons, List.length_nil]; omega) | (simp; done) | (simp; omega)) (by decide) B284.size ?_
  intro v285 w286 O287 G288 A289
  have O287' := own_appF O287
  have B290 : Below w.heap.size w w286 := below_grew B283 G288 O279' B272.size (B283.size)
  have B291 : Below w268.heap.size w268 w286 := below_grew B284 G288 O279' (Nat.le_refl _) (B284.size)
  refine EL_val v285 w286 rfl (r_assign rfl) ?_
  have O293 := own_asF O287' (show ([] : List Int) ++ (st k c n) = rnd (st k c n) 0 from rfl)
  have hok := OK_st k n (c := c) (by omega)
  refine EL_nil ?_
  refine thn_n ?_
  refine EC_seq ?_
  refine EC_seq ?_
  refine EC_reg ?_
  refine EL_val (.int .i64 0) w286 rfl (r_assign rfl) ?_
  refine EL_nil ?_
  refine thn_n ?_
  refine EC_block ?_
  refine EC_loop (fun m' E' w' => ∃ m : Int, m' = (10 - m).toNat ∧ E' 11 = .int .i64 m ∧ E' 6 = .slice none 0 0 ∧ E' 7 = v267 ∧ E' 10 = v285 ∧ (0 ≤ m ∧ m ≤ 10) ∧ Below w.heap.size w w' ∧ Below w268.heap.size w268 w' ∧ w'.ownsRow w268.heap.size 3 1 v285 (rnd (st k c n) m.toNat).length ((rnd (st k c n) m.toNat).map (Value.int .i64))) _ ⟨0, rfl, rfl, rfl, rfl, rfl, by omega, B290, B291, O293⟩ ?_
  rintro _ E294 w295 ⟨m, rfl, e296, e297, e298, e299, hm, B300, B301, O302⟩
  refine EC_seq ?_
  refine EC_seq ?_
  refine EC_reg ?_
  refine EL_val (.int .i64 m) w295 rfl (r_move (by exact e296)) ?_
  refine EL_val (.bool (decide (m < 10))) w295 rfl (r_lss rfl rfl) ?_
  refine EL_nil ?_
  refine thn_n ?_
  refine EC_if (p := m < 10) rfl (fun h303 => ?_) (fun h303 => ?_)
  · refine EC_skip ?_
    refine thn_n ?_
    refine EC_seq ?_
    refine EC_block ?_
    refine EC_seq ?_
    refine EC_reg ?_
    refine EL_val v285 w295 rfl (r_move (by exact e299)) ?_
    obtain ⟨t306, ht306⟩ : ∃ z, z = qr (rnd (st k c n) m.toNat) 0 4 8 12 := ⟨_, rfl⟩
    have okt306 : OK t306 := by rw [ht306]; exact (hok.rnd m.toNat).qr _ _ _ _
    refine EL_ret [v285, .int .i64 0, .int .i64 4, .int .i64 8, .int .i64 12] rfl Try.func39 rfl nm39 rfl (rquarter_c v285 w268 (rnd (st k c n) m.toNat) (hok.rnd m.toNat) 0 4 8 12 (by omega) (by omega) (by omega) (by omega) w295 B301.size O302) ?_
    rintro _ w307 ⟨rfl, O304, G305⟩
    replace O304 : w307.ownsRow w268.heap.size 3 1 v285 t306.length (t306.map (Value.int .i64)) := by rw [ht306]; exact O304
    have B308 : Below w.heap.size w w307 := below_grew B300 G305 O302 B272.size (B300.size)
    have B309 : Below w268.heap.size w268 w307 := below_grew B301 G305 O302 (Nat.le_refl _) (B301.size)
    refine EL_nil ?_
    refine thn_n ?_
    refine EC_seq ?_
    refine EC_reg ?_
    refine EL_val v285 w307 rfl (r_move (by exact e299)) ?_
    obtain ⟨t312, ht312⟩ : ∃ z, z = qr t306 1 5 9 13 := ⟨_, rfl⟩
    have okt312 : OK t312 := by rw [ht312]; exact okt306.qr _ _ _ _
    refine EL_ret [v285, .int .i64 1, .int .i64 5, .int .i64 9, .int .i64 13] rfl Try.func39 rfl nm39 rfl (rquarter_c v285 w268 t306 okt306 1 5 9 13 (by omega) (by omega) (by omega) (by omega) w307 B309.size O304) ?_
    rintro _ w313 ⟨rfl, O310, G311⟩
    replace O310 : w313.ownsRow w268.heap.size 3 1 v285 t312.length (t312.map (Value.int .i64)) := by rw [ht312]; exact O310
    have B314 : Below w.heap.size w w313 := below_grew B308 G311 O304 B272.size (B308.size)
    have B315 : Below w268.heap.size w268 w313 := below_grew B309 G311 O304 (Nat.le_refl _) (B309.size)
    refine EL_nil ?_
    refine thn_n ?_
    refine EC_seq ?_
    refine EC_reg ?_
    refine EL_val v285 w313 rfl (r_move (by exact e299)) ?_
    obtain ⟨t318, ht318⟩ : ∃ z, z = qr t312 2 6 10 14 := ⟨_, rfl⟩
    have okt318 : OK t318 := by rw [ht318]; exact okt312.qr _ _ _ _
    refine EL_ret [v285, .int .i64 2, .int .i64 6, .int .i64 10, .int .i64 14] rfl Try.func39 rfl nm39 rfl (rquarter_c v285 w268 t312 okt312 2 6 10 14 (by omega) (by omega) (by omega) (by omega) w313 B315.size O310) ?_
    rintro _ w319 ⟨rfl, O316, G317⟩
    replace O316 : w319.ownsRow w268.heap.size 3 1 v285 t318.length (t318.map (Value.int .i64)) := by rw [ht318]; exact O316
    have B320 : Below w.heap.size w w319 := below_grew B314 G317 O310 B272.size (B314.size)
    have B321 : Below w268.heap.size w268 w319 := below_grew B315 G317 O310 (Nat.le_refl _) (B315.size)
    refine EL_nil ?_
    refine thn_n ?_
    refine EC_seq ?_
    refine EC_reg ?_
    refine EL_val v285 w319 rfl (r_move (by exact e299)) ?_
    obtain ⟨t324, ht324⟩ : ∃ z, z = qr t318 3 7 11 15 := ⟨_, rfl⟩
    have okt324 : OK t324 := by rw [ht324]; exact okt318.qr _ _ _ _
    refine EL_ret [v285, .int .i64 3, .int .i64 7, .int .i64 11, .int .i64 15] rfl Try.func39 rfl nm39 rfl (rquarter_c v285 w268 t318 okt318 3 7 11 15 (by omega) (by omega) (by omega) (by omega) w319 B321.size O316) ?_
    rintro _ w325 ⟨rfl, O322, G323⟩
    replace O322 : w325.ownsRow w268.heap.size 3 1 v285 t324.length (t324.map (Value.int .i64)) := by rw [ht324]; exact O322
    have B326 : Below w.heap.size w w325 := below_grew B320 G323 O316 B272.size (B320.size)
    have B327 : Below w268.heap.size w268 w325 := below_grew B321 G323 O316 (Nat.le_refl _) (B321.size)
    refine EL_nil ?_
    refine thn_n ?_
    refine EC_seq ?_
    refine EC_reg ?_
    refine EL_val v285 w325 rfl (r_move (by exact e299)) ?_
    obtain ⟨t330, ht330⟩ : ∃ z, z = qr t324 0 5 10 15 := ⟨_, rfl⟩
    have okt330 : OK t330 := by rw [ht330]; exact okt324.qr _ _ _ _
    refine EL_ret [v285, .int .i64 0, .int .i64 5, .int .i64 10, .int .i64 15] rfl Try.func39 rfl nm39 rfl (rquarter_c v285 w268 t324 okt324 0 5 10 15 (by omega) (by omega) (by omega) (by omega) w325 B327.size O322) ?_
    rintro _ w331 ⟨rfl, O328, G329⟩
    replace O328 : w331.ownsRow w268.heap.size 3 1 v285 t330.length (t330.map (Value.int .i64)) := by rw [ht330]; exact O328
    have B332 : Below w.heap.size w w331 := below_grew B326 G329 O322 B272.size (B326.size)
    have B333 : Below w268.heap.size w268 w331 := below_grew B327 G329 O322 (Nat.le_refl _) (B327.size)
    refine EL_nil ?_
    refine thn_n ?_
    refine EC_seq ?_
    refine EC_reg ?_
    refine EL_val v285 w331 rfl (r_move (by exact e299)) ?_
    obtain ⟨t336, ht336⟩ : ∃ z, z = qr t330 1 6 11 12 := ⟨_, rfl⟩
    have okt336 : OK t336 := by rw [ht336]; exact okt330.qr _ _ _ _
    refine EL_ret [v285, .int .i64 1, .int .i64 6, .int .i64 11, .int .i64 12] rfl Try.func39 rfl nm39 rfl (rquarter_c v285 w268 t330 okt330 1 6 11 12 (by omega) (by omega) (by omega) (by omega) w331 B333.size O328) ?_
    rintro _ w337 ⟨rfl, O334, G335⟩
    replace O334 : w337.ownsRow w268.heap.size 3 1 v285 t336.length (t336.map (Value.int .i64)) := by rw [ht336]; exact O334
    have B338 : Below w.heap.size w w337 := below_grew B332 G335 O328 B272.size (B332.size)
    have B339 : Below w268.heap.size w268 w337 := below_grew B333 G335 O328 (Nat.le_refl _) (B333.size)
    refine EL_nil ?_
    refine thn_n ?_
    refine EC_seq ?_
    refine EC_reg ?_
    refine EL_val v285 w337 rfl (r_move (by exact e299)) ?_
    obtain ⟨t342, ht342⟩ : ∃ z, z = qr t336 2 7 8 13 := ⟨_, rfl⟩
    have okt342 : OK t342 := by rw [ht342]; exact okt336.qr _ _ _ _
    refine EL_ret [v285, .int .i64 2, .int .i64 7, .int .i64 8, .int .i64 13] rfl Try.func39 rfl nm39 rfl (rquarter_c v285 w268 t336 okt336 2 7 8 13 (by omega) (by omega) (by omega) (by omega) w337 B339.size O334) ?_
    rintro _ w343 ⟨rfl, O340, G341⟩
    replace O340 : w343.ownsRow w268.heap.size 3 1 v285 t342.length (t342.map (Value.int .i64)) := by rw [ht342]; exact O340
    have B344 : Below w.heap.size w w343 := below_grew B338 G341 O334 B272.size (B338.size)
    have B345 : Below w268.heap.size w268 w343 := below_grew B339 G341 O334 (Nat.le_refl _) (B339.size)
    refine EL_nil ?_
    refine thn_n ?_
    refine EC_reg ?_
    refine EL_val v285 w343 rfl (r_move (by exact e299)) ?_
    obtain ⟨t348, ht348⟩ : ∃ z, z = qr t342 3 4 9 14 := ⟨_, rfl⟩
    have okt348 : OK t348 := by rw [ht348]; exact okt342.qr _ _ _ _
    refine EL_ret [v285, .int .i64 3, .int .i64 4, .int .i64 9, .int .i64 14] rfl Try.func39 rfl nm39 rfl (rquarter_c v285 w268 t342 okt342 3 4 9 14 (by omega) (by omega) (by omega) (by omega) w343 B345.size O340) ?_
    rintro _ w349 ⟨rfl, O346, G347⟩
    replace O346 : w349.ownsRow w268.heap.size 3 1 v285 t348.length (t348.map (Value.int .i64)) := by rw [ht348]; exact O346
    have B350 : Below w.heap.size w w349 := below_grew B344 G347 O340 B272.size (B344.size)
    have B351 : Below w268.heap.size w268 w349 := below_grew B345 G347 O340 (Nat.le_refl _) (B345.size)
    refine EL_nil ?_
    refine inB_n ?_
    refine thn_n ?_
    refine EC_reg ?_
    refine EL_val (.int .i64 m) w349 rfl (r_move (by exact e296)) ?_
    refine EL_int (m + 1) rfl (r_addi rfl rfl (by omega)) ?_
    intro x352 hx352
    refine EL_val (.int .i64 x352) w349 rfl (r_assign rfl) ?_
    refine EL_nil ?_
    refine thn_n ?_
    refine ⟨_, ?_, x352, rfl, rfl, (by exact e297), (by exact e298), (by exact e299), by omega, B350, B351, by rw [show rnd (st k c n) (x352 : Int).toNat = t348 from by rw [show (x352 : Int).toNat = m.toNat + 1 from by omega, ht348, ht342, ht336, ht330, ht324, ht318, ht312, ht306]; rfl]; exact O346⟩
    first | omega | (simp; omega)
  · refine EC_exit ?_
    refine thn_x ?_
    refine thn_x ?_
    refine inB_hit ?_
    refine thn_n ?_
    refine EC_seq ?_
    refine EC_reg ?_
    refine EL_val (.slice none 0 0) w295 rfl (r_assign rfl) ?_
    refine EL_nil ?_
    refine thn_n ?_
    refine EC_seq ?_
    refine EC_seq ?_
    refine EC_reg ?_
    refine EL_val (.int .i64 0) w295 rfl (r_assign rfl) ?_
    refine EL_nil ?_
    refine thn_n ?_
    refine EC_block ?_
    have em : m.toNat = 10 := by omega
    have O353 := own_asF O302 (show rnd (st k c n) m.toNat = rnd (st k c n) 10 by rw [em])
    have hl0 := hok.1
    have hl1 := (hok.rnd 10).1
    refine EC_loop (fun m' E' w' => ∃ i : Int, ∃ ov : Value, m' = (16 - i).toNat ∧ E' 13 = .int .i64 i ∧ E' 12 = ov ∧ E' 6 = .slice none 0 0 ∧ E' 7 = v267 ∧ E' 10 = v285 ∧ (0 ≤ i ∧ i ≤ 16) ∧ Below w.heap.size w w' ∧ Below w268.heap.size w268 w' ∧ Below w295.heap.size w295 w' ∧ w'.ownsRow w295.heap.size 5 1 ov (ser (st k c n) (rnd (st k c n) 10) i.toNat).length ((ser (st k c n) (rnd (st k c n) 10) i.toNat).map byt)) _ ⟨0, .slice none 0 0, rfl, rfl, rfl, (by exact e297), (by exact e298), (by exact e299), by omega, B300, B301, (Below.refl _ _), (World.ownsRow_nil _ _ _ _)⟩ ?_
    rintro _ E354 w355 ⟨i, ov, rfl, e356, e357, e358, e359, e360, hi, B361, B362, B363, O364⟩
    refine EC_seq ?_
    refine EC_seq ?_
    refine EC_reg ?_
    refine EL_val (.int .i64 i) w355 rfl (r_move (by exact e356)) ?_
    refine EL_val (.bool (decide (i < 16))) w355 rfl (r_lss rfl rfl) ?_
    refine EL_nil ?_
    refine thn_n ?_
    refine EC_if (p := i < 16) rfl (fun h365 => ?_) (fun h365 => ?_)
    · refine EC_skip ?_
      refine thn_n ?_
      refine EC_seq ?_
      refine EC_block ?_
      refine EC_seq ?_
      refine EC_quietB (by kernel_rfl) (by kernel_rfl) ?_
      refine EQ_val v285 rfl (fun _ hw => r_move (by exact e360)) ?_
      refine EQ_val (.int .i64 i) rfl (fun _ hw => r_move (by exact e356)) ?_
      refine EQ_val (.pointer (some (at_ v285 ((i : Int).toNat)))) rfl (fun _ hw => r_index rfl (((own_row O353).below B363).below hw) rfl (by omega) (by first | omega | (simp; omega) | simp) Try.underlying66 (by kernel_rfl)) ?_
      obtain ⟨x366, hx367⟩ := get_some (l := rnd (st k c n) 10) (j := (i : Int).toNat) (by first | omega | (simp; omega) | simp)
      have := ser_len (st k c n) (rnd (st k c n) 10) i.toNat
      have := (hok.rnd 10).get hx367
      refine EQ_val (.int .i64 x366) rfl (fun _ hw => r_load rfl ((((own_row O353).below B363).below hw).cell (int_get hx367)) Try.underlying3 rfl) ?_
      refine EQ_val v267 rfl (fun _ hw => r_move (by exact e359)) ?_
      refine EQ_val (.int .i64 i) rfl (fun _ hw => r_move (by exact e356)) ?_
      refine EQ_val (.pointer (some (at_ v267 ((i : Int).toNat)))) rfl (fun _ hw => r_index rfl (((own_row O276).below B362).below hw) rfl (by omega) (by first | omega | (simp; omega) | simp) Try.underlying66 (by kernel_rfl)) ?_
      obtain ⟨x368, hx369⟩ := get_some (l := st k c n) (j := (i : Int).toNat) (by first | omega | (simp; omega) | simp)
      have := ser_len (st k c n) (rnd (st k c n) 10) i.toNat
      have := hok.get hx369
      refine EQ_val (.int .i64 x368) rfl (fun _ hw => r_load rfl ((((own_row O276).below B362).below hw).cell (int_get hx369)) Try.underlying3 rfl) ?_
      refine EQ_int (x366 + x368) rfl (fun _ hw => r_addi rfl rfl (by omega)) ?_
      intro x370 hx370
      refine EQ_int (x370 % 4294967296) rfl (fun _ hw => r_remi rfl rfl (by omega) (by omega)) ?_
      intro x371 hx371
      refine EQ_val (.int .i64 x371) rfl (fun _ hw => r_assign rfl) ?_
      refine EQ_nil ?_
      intro w372 B373
      have B374 : Below w.heap.size w w372 := below_full B361 B361.size B373
      have B375 : Below w268.heap.size w268 w372 := below_full B362 B362.size B373
      have B376 : Below w295.heap.size w295 w372 := below_full B363 B363.size B373
      have B377 : Below w355.heap.size w355 w372 := B373
      refine thn_n ?_
      refine EC_reg ?_
      refine EL_val ov w372 rfl (r_move (by exact e357)) ?_
      refine EL_val (.int .i64 x371) w372 rfl (r_move rfl) ?_
      refine EL_int (x371 % 256) rfl (r_remi rfl rfl (by omega) (by omega)) ?_
      intro x378 hx378
      refine EL_val (.int .u8 (x378 % 256)) w372 rfl (r_convb 3 5 rfl Try.underlying3 Try.underlying5) ?_
      refine EL_val (.int .i64 x371) w372 rfl (r_move rfl) ?_
      refine EL_int (x371 / 256) rfl (r_quoi rfl rfl (by omega) (by omega)) ?_
      intro x379 hx379
      refine EL_int (x379 % 256) rfl (r_remi rfl rfl (by omega) (by omega)) ?_
      intro x380 hx380
      refine EL_val (.int .u8 (x380 % 256)) w372 rfl (r_convb 3 5 rfl Try.underlying3 Try.underlying5) ?_
      refine EL_val (.int .i64 x371) w372 rfl (r_move rfl) ?_
      refine EL_int (x371 / 65536) rfl (r_quoi rfl rfl (by omega) (by omega)) ?_
      intro x381 hx381
      refine EL_int (x381 % 256) rfl (r_remi rfl rfl (by omega) (by omega)) ?_
      intro x382 hx382
      refine EL_val (.int .u8 (x382 % 256)) w372 rfl (r_convb 3 5 rfl Try.underlying3 Try.underlying5) ?_
      refine EL_val (.int .i64 x371) w372 rfl (r_move rfl) ?_
      refine EL_int (x371 / 16777216) rfl (r_quoi rfl rfl (by omega) (by omega)) ?_
      intro x383 hx383
      refine EL_val (.int .u8 (x383 % 256)) w372 rfl (r_convb 3 5 rfl Try.underlying3 Try.underlying5) ?_
      refine EL_lit w372.heap.size #[.int .u8 (x378 % 256), .int .u8 (x380 % 256), .int .u8 (x382 % 256), .int .u8 (x383 % 256)] elB rfl (by decide) rfl (Nat.le_refl _) (by kernel_rfl) ?_
      intro v384 w385 O386 B387 k388 z389
      have B390 : Below w.heap.size w w385 := below_full B374 B374.size B387
      have B391 : Below w268.heap.size w268 w385 := below_full B375 B375.size B387
      have B392 : Below w295.heap.size w295 w385 := below_full B376 B376.size B387
      have B393 : Below w355.heap.size w355 w385 := below_full B377 B377.size B387
      have B394 : Below w372.heap.size w372 w385 := B387
      have O386' := own_eq (l := [bof x378, bof x380, bof x382, bof x383]) O386 (by simp [bof_val, byt])
      refine EL_append (v := ov) (xs := (ser (st k c n) (rnd (st k c n) 10) i.toNat).map byt) (ys := [bof x378, bof x380, bof x382, bof x383].map byt) w295.heap.size elB rfl rfl rfl (by simpa using (own_below O364 B393)) (own_row O386') (byt_one _) (by first | (simp only [List.length_map, List.length_nil]; omega) | (simp; done) | (simp; omega)) (by decide) B392.size ?_
      intro v395 w396 O397 G398 A399
      have O397' := own_app O397
      have B400 : Below w.heap.size w w396 := below_grew B390 G398 (own_below O364 B393) B300.size (B390.size)
      have B401 : Below w268.heap.size w268 w396 := below_grew B391 G398 (own_below O364 B393) B301.size (B391.size)
      have B402 : Below w295.heap.size w295 w396 := below_grew B392 G398 (own_below O364 B393) (Nat.le_refl _) (B392.size)
      refine EL_val v395 w396 rfl (r_assign rfl) ?_
      refine EL_nil ?_
      refine inB_n ?_
      refine thn_n ?_
      refine EC_reg ?_
      refine EL_val (.int .i64 i) w396 rfl (r_move (by exact e356)) ?_
      refine EL_int (i + 1) rfl (r_addi rfl rfl (by omega)) ?_
      intro x406 hx406
      refine EL_val (.int .i64 x406) w396 rfl (r_assign rfl) ?_
      refine EL_nil ?_
      refine thn_n ?_
      have es : (ser (st k c n) (rnd (st k c n) 10) i.toNat) ++ [bof x378, bof x380, bof x382, bof x383] = ser (st k c n) (rnd (st k c n) 10) x406.toNat := by
        rw [show x406.toNat = i.toNat + 1 from by omega]
        simp only [ser, List.getD_eq_getElem?_getD, hx367, hx369, Option.getD_some, wb]
        simp only [hx370, hx371, hx378, hx379, hx380, hx381, hx382, hx383, bof_mod]
      refine ⟨_, ?_, x406, v395, rfl, rfl, rfl, (by exact e358), (by exact e359), (by exact e360), by omega, B400, B401, B402, own_as O397' es⟩
      first | omega | (simp; omega)
    · refine EC_exit ?_
      refine thn_x ?_
      refine thn_x ?_
      refine inB_hit ?_
      refine thn_n ?_
      refine EC_seq ?_
      refine EC_reg ?_
      refine EL_val ov w355 rfl (r_move (by exact e357)) ?_
      refine EL_val ov w355 rfl (r_assign rfl) ?_
      refine EL_nil ?_
      refine thn_n ?_
      refine EC_ret ?_
      refine fin1 Try.results30 (show _ = ov from rfl) ⟨_, rfl, ?_⟩
      have ei : i.toNat = 16 := by omega
      exact ⟨own_as (own_mono O364 B300.size) (by rw [ei]; rfl), B361⟩

set_option maxHeartbeats 2000000 in
theorem rXOR_c (v0 : Value) (k : List UInt8) (c : Int) (v1 : Value) (n : List UInt8) (v2 : Value) (t : List UInt8) (w : World) (H0 : Bs w v0 k) (H1 : Bs w v1 n) (H2 : Bs w v2 t) (hk : k.length = 32) (hn : n.length = 12) (hc : 0 ≤ c ∧ c < 4294967296) (ht : t.length ≤ 1000000) : Ret Try.prog 18 [v0, .int .i64 c, v1, v2] w fun v w' => w'.ownsRow w.heap.size 5 1 v (xo k c n t).length ((xo k c n t).map byt) ∧ Below w.heap.size w w' := by
  refine ret_E Try.func18 rfl Try.ntmps18 (by simp) ?_
  refine EC_seq ?_
  refine EC_reg ?_
  refine EL_val (.slice none 0 0) w rfl (r_assign rfl) ?_
  refine EL_nil ?_
  refine thn_n ?_
  refine EC_seq ?_
  refine EC_reg ?_
  refine EL_val (.slice none 0 0) w rfl (r_assign rfl) ?_
  refine EL_nil ?_
  refine thn_n ?_
  refine EC_seq ?_
  refine EC_seq ?_
  refine EC_reg ?_
  refine EL_val (.int .i64 0) w rfl (r_assign rfl) ?_
  refine EL_nil ?_
  refine thn_n ?_
  refine EC_block ?_
  refine EC_loop (fun m' E' w' => ∃ i : Int, ∃ ov : Value, ∃ ol : List UInt8, m' = (t.length + 64 - i).toNat ∧ E' 10 = .int .i64 i ∧ E' 9 = ov ∧ E' 0 = v0 ∧ E' 1 = .int .i64 c ∧ E' 2 = v1 ∧ E' 3 = v2 ∧ E' 8 = .slice none 0 0 ∧ (0 ≤ i ∧ i < (t.length : Int) + 64 ∧ i % 64 = 0) ∧ ((ol.length : Int) = min i (t.length : Int)) ∧ (∀ j u, j < ol.length → t[j]? = some u → ol[j]? = some (u ^^^ ks k c n j)) ∧ Below w.heap.size w w' ∧ w'.ownsRow w.heap.size 5 1 ov (ol).length ((ol).map byt)) _ ⟨0, .slice none 0 0, [], rfl, rfl, rfl, rfl, rfl, rfl, rfl, rfl, by omega, by simp; omega, fun j u hj => absurd hj (by simp), (Below.refl _ _), (World.ownsRow_nil _ _ _ _)⟩ ?_
  rintro _ E11 w12 ⟨i, ov, ol, rfl, e13, e14, e15, e16, e17, e18, e19, hi, hol, hod, B20, O21⟩
  refine EC_seq ?_
  refine EC_seq ?_
  refine EC_reg ?_
  refine EL_val (.int .i64 i) w12 rfl (r_move (by exact e13)) ?_
  refine EL_val v2 w12 rfl (r_move (by exact e18)) ?_
  refine EL_val (.int .i64 (t.length : Int)) w12 rfl (lenB (r_len rfl (H2.below B20) Try.underlying22)) ?_
  refine EL_val (.bool (decide (i < (t.length : Int)))) w12 rfl (r_lss rfl rfl) ?_
  refine EL_nil ?_
  refine thn_n ?_
  refine EC_if (p := i < (t.length : Int)) rfl (fun h22 => ?_) (fun h22 => ?_)
  · refine EC_skip ?_
    refine thn_n ?_
    refine EC_seq ?_
    refine EC_block ?_
    refine EC_seq ?_
    refine EC_reg ?_
    refine EL_val v0 w12 rfl (r_move (by exact e15)) ?_
    refine EL_val (.int .i64 c) w12 rfl (r_move (by exact e16)) ?_
    refine EL_val (.int .i64 i) w12 rfl (r_move (by exact e13)) ?_
    refine EL_int (i / 64) rfl (r_quoi rfl rfl (by omega) (by omega)) ?_
    intro x23 hx23
    refine EL_int (c + x23) rfl (r_addi rfl rfl (by omega)) ?_
    intro x24 hx24
    refine EL_int (x24 % 4294967296) rfl (r_remi rfl rfl (by omega) (by omega)) ?_
    intro x25 hx25
    refine EL_val v1 w12 rfl (r_move (by exact e17)) ?_
    refine EL_ret [v0, .int .i64 x25, v1] rfl Try.func30 rfl nm30 rfl (rblock_c v0 k x25 v1 n w12 (H0.below B20) (H1.below B20) (by omega) (by omega) (by omega)) ?_
    rintro p26 w29 ⟨O27, B28⟩
    have B30 : Below w.heap.size w w29 := below_full B20 B20.size B28
    have B31 : Below w12.heap.size w12 w29 := B28
    refine EL_val p26 w29 rfl (r_assign rfl) ?_
    refine EL_nil ?_
    refine thn_n ?_
    refine EC_seq ?_
    refine EC_reg ?_
    refine EL_val (.int .i64 i) w29 rfl (r_move (by exact e13)) ?_
    refine EL_val (.int .i64 i) w29 rfl (r_assign rfl) ?_
    refine EL_nil ?_
    refine thn_n ?_
    refine EC_block ?_
    have hkl := kb_len k ((c + i / 64) % 4294967296) n
    have ekb : kb k x25 n = kb k ((c + i / 64) % 4294967296) n := by rw [show (c + i / 64) % 4294967296 = x25 from by omega]
    have O32 := own_as O27 ekb
    have hne := own_fresh O32 (by rw [hkl]; decide) O21 (Nat.le_refl _)
    refine EC_loop (fun m' E' w' => ∃ k2 : Int, ∃ ov2 : Value, ∃ ol2 : List UInt8, m' = (i + 64 - k2).toNat ∧ E' 12 = .int .i64 k2 ∧ E' 9 = ov2 ∧ E' 0 = v0 ∧ E' 1 = .int .i64 c ∧ E' 2 = v1 ∧ E' 3 = v2 ∧ E' 8 = .slice none 0 0 ∧ E' 10 = .int .i64 i ∧ E' 11 = p26 ∧ (i ≤ k2 ∧ k2 ≤ i + 64 ∧ k2 ≤ (t.length : Int)) ∧ ((ol2.length : Int) = k2) ∧ (∀ j u, j < ol2.length → t[j]? = some u → ol2[j]? = some (u ^^^ ks k c n j)) ∧ (p26.ownBlock ≠ ov2.ownBlock) ∧ Below w.heap.size w w' ∧ w'.ownsRow w.heap.size 5 1 ov2 (ol2).length ((ol2).map byt) ∧ w'.ownsRow w12.heap.size 5 1 p26 (kb k ((c + i / 64) % 4294967296) n).length ((kb k ((c + i / 64) % 4294967296) n).map byt)) _ ⟨i, ov, ol, rfl, rfl, (by exact e14), (by exact e15), (by exact e16), (by exact e17), (by exact e18), (by exact e19), (by exact e13), rfl, by omega, by omega, hod, hne, B30, (by first | exact (own_below O21 B31) | simpa using (own_below O21 B31)), O32⟩ ?_
    rintro _ E33 w34 ⟨k2, ov2, ol2, rfl, e35, e36, e37, e38, e39, e40, e41, e42, e43, hi2, hol2, hod2, hne2, B44, O45, O46⟩
    refine EC_seq ?_
    refine EC_seq ?_
    refine EC_reg ?_
    refine EL_val (.int .i64 k2) w34 rfl (r_move (by exact e35)) ?_
    refine EL_val (.int .i64 i) w34 rfl (r_move (by exact e42)) ?_
    refine EL_int (i + 64) rfl (r_addi rfl rfl (by omega)) ?_
    intro x47 hx47
    refine EL_val (.bool (decide (k2 < x47))) w34 rfl (r_lss rfl rfl) ?_
    refine EL_val (.bool (decide (k2 < x47))) w34 rfl (r_move rfl) ?_
    refine EL_gite 32 rfl rfl rfl (.int .i64 k2) rfl (fun g48 => r_move (by exact e35)) ?_
    refine EL_gite 32 rfl rfl rfl v2 rfl (fun g49 => r_move (by exact e40)) ?_
    refine EL_gite 32 rfl rfl rfl (.int .i64 (t.length : Int)) rfl (fun g50 => lenB (r_len (cond_of g50 rfl) (H2.below B44) Try.underlying22)) ?_
    refine EL_gite 32 rfl rfl rfl (.bool (decide (k2 < (t.length : Int)))) rfl (fun g51 => r_lss (cond_of g51 rfl) (cond_of g51 rfl)) ?_
    refine EL_val (.bool ((decide (k2 < x47)) && (decide (k2 < (t.length : Int))))) w34 rfl (r_and rfl rfl rfl) ?_
    refine EL_nil ?_
    refine thn_n ?_
    refine EC_cond (t := (decide (k2 < x47)) && (decide (k2 < (t.length : Int)))) rfl (fun h52 => ?_) (fun h52 => ?_)
    · simp at h52
      refine EC_skip ?_
      refine thn_n ?_
      refine EC_seq ?_
      refine EC_block ?_
      refine EC_held (fun w' => w34.grownBy w' ov2.ownBlock) (by kernel_rfl) ?_
      intro w53 B54 z55
      have K56 : w34.grownBy w53 ov2.ownBlock := kept_below (kept_refl _ _) B54
      refine EA_take 0 rfl (by kernel_rfl) (by kernel_rfl) (by kernel_rfl) ov2 rfl (fun _ hw => r_move (by exact e36)) K56 ?_
      refine EA_take 1 rfl (by kernel_rfl) (by kernel_rfl) (by kernel_rfl) v2 rfl (fun _ hw => r_move (by exact e40)) K56 ?_
      refine EA_take 2 rfl (by kernel_rfl) (by kernel_rfl) (by kernel_rfl) (.int .i64 k2) rfl (fun _ hw => r_move (by exact e35)) K56 ?_
      refine EA_take 3 rfl (by kernel_rfl) (by kernel_rfl) (by kernel_rfl) (.pointer (some (at_ v2 ((k2 : Int).toNat)))) rfl (fun _ hw => r_index rfl (H2.below (below_grew B44 hw O45 (Nat.le_refl _) B44.size)) rfl (by omega) (by first | omega | (simp; omega) | simp) Try.underlying22 (by kernel_rfl)) K56 ?_
      obtain ⟨b57, hb58⟩ := get_some (l := t) (j := (k2 : Int).toNat) (by omega)
      have hb59 := b57.toNat_lt
      refine EA_take 4 rfl (by kernel_rfl) (by kernel_rfl) (by kernel_rfl) (.int .u8 (b57.toNat : Int)) rfl (fun _ hw => r_load rfl ((H2.below (below_grew B44 hw O45 (Nat.le_refl _) B44.size)).cell (bs_get hb58)) Try.underlying5 rfl) K56 ?_
      refine EA_take 5 rfl (by kernel_rfl) (by kernel_rfl) (by kernel_rfl) p26 rfl (fun _ hw => r_move (by exact e43)) K56 ?_
      refine EA_take 6 rfl (by kernel_rfl) (by kernel_rfl) (by kernel_rfl) (.int .i64 k2) rfl (fun _ hw => r_move (by exact e35)) K56 ?_
      refine EA_take 7 rfl (by kernel_rfl) (by kernel_rfl) (by kernel_rfl) (.int .i64 i) rfl (fun _ hw => r_move (by exact e42)) K56 ?_
      refine EA_take 8 rfl (by kernel_rfl) (by kernel_rfl) (by kernel_rfl) (.int .i64 (k2 - i)) rfl (fun _ hw => r_subi rfl rfl (by omega)) K56 ?_
      refine EA_take 9 rfl (by kernel_rfl) (by kernel_rfl) (by kernel_rfl) (.pointer (some (at_ p26 ((k2 - i : Int).toNat)))) rfl (fun _ hw => r_index rfl (own_row (own_ne O46 hw hne2)) rfl (by omega) (by first | omega | (simp; omega) | simp) Try.underlying22 (by kernel_rfl)) K56 ?_
      obtain ⟨b61, hb62⟩ := get_some (l := kb k ((c + i / 64) % 4294967296) n) (j := (k2 - i : Int).toNat) (by omega)
      have hb63 := b61.toNat_lt
      refine EA_take 10 rfl (by kernel_rfl) (by kernel_rfl) (by kernel_rfl) (.int .u8 (b61.toNat : Int)) rfl (fun _ hw => r_load rfl ((own_row (own_ne O46 hw hne2)).cell (bs_get hb62)) Try.underlying5 rfl) K56 ?_
      refine EA_take 11 rfl (by kernel_rfl) (by kernel_rfl) (by kernel_rfl) (.int .u8 ((b57 ^^^ b61).toNat : Int)) rfl (fun _ hw => r_xorb (a := b57) (b := b61) rfl rfl) K56 ?_
      have B64 : Below w.heap.size w w53 := below_full B44 B44.size B54
      have B65 : Below w34.heap.size w34 w53 := B54
      refine EA_one 12 rfl (by kernel_rfl) ?_
      refine EL_lit w53.heap.size #[.int .u8 ((b57 ^^^ b61).toNat : Int)] elB rfl (by decide) rfl (Nat.le_refl _) (by kernel_rfl) ?_
      intro v66 w67 O68 B69 k70 z71
      have G72 : w34.grownBy w67 ov2.ownBlock := kept_below K56 B69
      have B73 : Below w.heap.size w w67 := below_full B64 B64.size B69
      have B74 : Below w34.heap.size w34 w67 := below_full B65 B65.size B69
      have B75 : Below w53.heap.size w53 w67 := B69
      have O68' := own_eq (l := [(b57 ^^^ b61)]) O68 (by simp [bof_val, byt])
      refine EL_nil ?_
      refine ⟨rfl, G72, ?_⟩
      refine EA_one 13 rfl (by kernel_rfl) ?_
      refine EL_append (v := ov2) (xs := ol2.map byt) (ys := [(b57 ^^^ b61)].map byt) w.heap.size elB rfl rfl rfl (by simpa using (own_below O45 B74)) (own_row O68') (byt_one _) (by first | (simp only [List.length_map, List.length_nil]; omega) | (simp; done) | (simp; omega)) (by decide) B73.size ?_
      intro v76 w77 O78 G79 A80
      have O78' := own_app O78
      have Q81 : ∀ g, v76.ownBlock = some g → w34.heap.size ≤ g ∨ ov2.ownBlock = some g := fun g hg => A80.elim (fun e => (fun g hg => .inr hg) g (e.symm.trans hg)) (fun e => .inl (by have h1 := Option.some.inj (e.symm.trans hg); have h2 := G72.size; omega))
      have G82 : w34.grownBy w77 ov2.ownBlock := kept_trans G72 G79
      have B83 : Below w.heap.size w w77 := below_grew B73 G79 (own_below O45 B74) (Nat.le_refl _) (B73.size)
      have O87 := own_ne (own_below O46 B74) G79 hne2
      have n88 := own_ne2 (own_below O46 B74) hne2 A80
      refine EL_nil ?_
      refine ⟨rfl, G82, ?_⟩
      refine EA_take 14 rfl (by kernel_rfl) (by kernel_rfl) (by kernel_rfl) v76 rfl (fun _ hw => r_assign rfl) G82 ?_
      refine EA_done (by kernel_rfl) ?_
      refine inB_n ?_
      refine thn_n ?_
      refine EC_reg ?_
      refine EL_val (.int .i64 k2) w77 rfl (r_move (by exact e35)) ?_
      refine EL_int (k2 + 1) rfl (r_addi rfl rfl (by omega)) ?_
      intro x89 hx89
      refine EL_val (.int .i64 x89) w77 rfl (r_assign rfl) ?_
      refine EL_nil ?_
      refine thn_n ?_
      have ek : ((k2.toNat : Nat) : Int) = k2 := by omega
      have eb : (kb k ((c + ((k2.toNat : Nat) : Int) / 64) % 4294967296) n)[k2.toNat % 64]? = some b61 := by rw [ek, show (c + k2 / 64) % 4294967296 = (c + i / 64) % 4294967296 from by omega, show k2.toNat % 64 = (k2 - i : Int).toNat from by omega]; exact hb62
      have es := oa_step (ol := ol2) (i := k2.toNat) (by omega) (fun j u hj => hod2 j u (by omega)) hb58 eb
      refine ⟨_, ?_, x89, v76, ol2 ++ [(b57 ^^^ b61)], rfl, rfl, rfl, (by exact e37), (by exact e38), (by exact e39), (by exact e40), (by exact e41), (by exact e42), (by exact e43), by omega, by simp; omega, fun j u hj => es j u (by simp at hj; omega), n88, B83, O78', O87⟩
      first | omega | (simp; omega)
    · simp at h52
      have hzz := h52
      refine EC_exit ?_
      refine thn_x ?_
      refine thn_x ?_
      refine inB_hit ?_
      refine inB_n ?_
      refine thn_n ?_
      refine EC_reg ?_
      refine EL_val (.int .i64 i) w34 rfl (r_move (by exact e42)) ?_
      refine EL_int (i + 64) rfl (r_addi rfl rfl (by omega)) ?_
      intro x90 hx90
      refine EL_val (.int .i64 x90) w34 rfl (r_assign rfl) ?_
      refine EL_nil ?_
      refine thn_n ?_
      refine ⟨_, ?_, x90, ov2, ol2, rfl, rfl, (by exact e36), (by exact e37), (by exact e38), (by exact e39), (by exact e40), (by exact e41), by omega, by omega, hod2, B44, O45⟩
      first | omega | (simp; omega)
  · refine EC_exit ?_
    refine thn_x ?_
    refine thn_x ?_
    refine inB_hit ?_
    refine thn_n ?_
    refine EC_seq ?_
    refine EC_reg ?_
    refine EL_val ov w12 rfl (r_move (by exact e14)) ?_
    refine EL_val ov w12 rfl (r_assign rfl) ?_
    refine EL_nil ?_
    refine thn_n ?_
    refine EC_ret ?_
    refine fin1 Try.results18 (show _ = ov from rfl) ⟨_, rfl, ?_⟩
    have e9 : ol = xo k c n t := xo_of (by omega) (fun j u hj hu => hod j u (by omega) hu)
    exact ⟨own_as O21 e9, B20⟩

end Go.Proofs.Ytlhaojpkejpgfaa
