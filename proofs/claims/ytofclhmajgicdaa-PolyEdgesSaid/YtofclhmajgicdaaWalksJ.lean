import Derived.Test.YtofclhmajgicdaaWalksI
import Derived.Test.YtofclhmajgicdaaTags
set_option linter.unusedVariables false
set_option linter.unusedSimpArgs false
namespace Go.Proofs.Ytofclhmajgicdaa
open Go.RowKit Go.Ecal

set_option maxRecDepth 100000 in
set_option maxHeartbeats 4000000 in
theorem anchor_c (w : World) : Ret Try.prog 9 [] w fun v w' => v = .bool true ∧ Below w.heap.size w w' := by
  refine ret_E Try.func9 rfl Try.ntmps9 (by simp) ?_
  refine EC_seq ?_
  refine EC_reg ?_
  refine EL_val (.bool false) w rfl (r_assign rfl) ?_
  refine EL_nil ?_
  refine thn_n ?_
  refine EC_seq ?_
  refine EC_reg ?_
  refine EL_lit w.heap.size #[.int .u8 133, .int .u8 214, .int .u8 190, .int .u8 120, .int .u8 87, .int .u8 85, .int .u8 109, .int .u8 51, .int .u8 127, .int .u8 68, .int .u8 82, .int .u8 254, .int .u8 66, .int .u8 213, .int .u8 6, .int .u8 168, .int .u8 1, .int .u8 3, .int .u8 128, .int .u8 138, .int .u8 251, .int .u8 13, .int .u8 178, .int .u8 253, .int .u8 74, .int .u8 191, .int .u8 246, .int .u8 175, .int .u8 65, .int .u8 73, .int .u8 245, .int .u8 27] elB rfl (by decide) rfl (Nat.le_refl _) (by kernel_rfl) ?_
  intro v11 w12 O13 B14 k15 z16
  have B17 : Below w.heap.size w w12 := B14
  have O13' := own_eq (l := [(133 : UInt8), (214 : UInt8), (190 : UInt8), (120 : UInt8), (87 : UInt8), (85 : UInt8), (109 : UInt8), (51 : UInt8), (127 : UInt8), (68 : UInt8), (82 : UInt8), (254 : UInt8), (66 : UInt8), (213 : UInt8), (6 : UInt8), (168 : UInt8), (1 : UInt8), (3 : UInt8), (128 : UInt8), (138 : UInt8), (251 : UInt8), (13 : UInt8), (178 : UInt8), (253 : UInt8), (74 : UInt8), (191 : UInt8), (246 : UInt8), (175 : UInt8), (65 : UInt8), (73 : UInt8), (245 : UInt8), (27 : UInt8)]) O13 (by simp [bof_val, byt])
  refine EL_mark (v := v11) rfl rfl O13' (by simp) Try.underlying22 Try.underlying5 ?_
  intro w18 R19 G20 z21
  have B22 : Below w.heap.size w w18 := below_grew B17 G20 O13' (Nat.le_refl _) (B17.size)
  refine EL_lit w18.heap.size #[.int .u8 67, .int .u8 114, .int .u8 121, .int .u8 112, .int .u8 116, .int .u8 111, .int .u8 103, .int .u8 114, .int .u8 97, .int .u8 112, .int .u8 104, .int .u8 105, .int .u8 99, .int .u8 32, .int .u8 70, .int .u8 111, .int .u8 114, .int .u8 117, .int .u8 109, .int .u8 32, .int .u8 82, .int .u8 101, .int .u8 115, .int .u8 101, .int .u8 97, .int .u8 114, .int .u8 99, .int .u8 104, .int .u8 32, .int .u8 71, .int .u8 114, .int .u8 111, .int .u8 117, .int .u8 112] elB rfl (by decide) rfl (Nat.le_refl _) (by kernel_rfl) ?_
  intro v23 w24 O25 B26 k27 z28
  have B29 : Below w.heap.size w w24 := below_full B22 B22.size B26
  have B30 : Below w18.heap.size w18 w24 := B26
  have O25' := own_eq (l := [(67 : UInt8), (114 : UInt8), (121 : UInt8), (112 : UInt8), (116 : UInt8), (111 : UInt8), (103 : UInt8), (114 : UInt8), (97 : UInt8), (112 : UInt8), (104 : UInt8), (105 : UInt8), (99 : UInt8), (32 : UInt8), (70 : UInt8), (111 : UInt8), (114 : UInt8), (117 : UInt8), (109 : UInt8), (32 : UInt8), (82 : UInt8), (101 : UInt8), (115 : UInt8), (101 : UInt8), (97 : UInt8), (114 : UInt8), (99 : UInt8), (104 : UInt8), (32 : UInt8), (71 : UInt8), (114 : UInt8), (111 : UInt8), (117 : UInt8), (112 : UInt8)]) O25 (by simp [bof_val, byt])
  refine EL_mark (v := v23) rfl rfl O25' (by simp) Try.underlying22 Try.underlying5 ?_
  intro w31 R32 G33 z34
  have B35 : Below w.heap.size w w31 := below_grew B29 G33 O25' B22.size (B29.size)
  have B36 : Below w18.heap.size w18 w31 := below_grew B30 G33 O25' (Nat.le_refl _) (B30.size)
  have L40 := tag_len [(133 : UInt8), (214 : UInt8), (190 : UInt8), (120 : UInt8), (87 : UInt8), (85 : UInt8), (109 : UInt8), (51 : UInt8), (127 : UInt8), (68 : UInt8), (82 : UInt8), (254 : UInt8), (66 : UInt8), (213 : UInt8), (6 : UInt8), (168 : UInt8), (1 : UInt8), (3 : UInt8), (128 : UInt8), (138 : UInt8), (251 : UInt8), (13 : UInt8), (178 : UInt8), (253 : UInt8), (74 : UInt8), (191 : UInt8), (246 : UInt8), (175 : UInt8), (65 : UInt8), (73 : UInt8), (245 : UInt8), (27 : UInt8)] [(67 : UInt8), (114 : UInt8), (121 : UInt8), (112 : UInt8), (116 : UInt8), (111 : UInt8), (103 : UInt8), (114 : UInt8), (97 : UInt8), (112 : UInt8), (104 : UInt8), (105 : UInt8), (99 : UInt8), (32 : UInt8), (70 : UInt8), (111 : UInt8), (114 : UInt8), (117 : UInt8), (109 : UInt8), (32 : UInt8), (82 : UInt8), (101 : UInt8), (115 : UInt8), (101 : UInt8), (97 : UInt8), (114 : UInt8), (99 : UInt8), (104 : UInt8), (32 : UInt8), (71 : UInt8), (114 : UInt8), (111 : UInt8), (117 : UInt8), (112 : UInt8)]
  refine EL_ret [v11, v23] rfl Try.func10 rfl nm10 rfl (Tag_ok v11 [(133 : UInt8), (214 : UInt8), (190 : UInt8), (120 : UInt8), (87 : UInt8), (85 : UInt8), (109 : UInt8), (51 : UInt8), (127 : UInt8), (68 : UInt8), (82 : UInt8), (254 : UInt8), (66 : UInt8), (213 : UInt8), (6 : UInt8), (168 : UInt8), (1 : UInt8), (3 : UInt8), (128 : UInt8), (138 : UInt8), (251 : UInt8), (13 : UInt8), (178 : UInt8), (253 : UInt8), (74 : UInt8), (191 : UInt8), (246 : UInt8), (175 : UInt8), (65 : UInt8), (73 : UInt8), (245 : UInt8), (27 : UInt8)] v23 [(67 : UInt8), (114 : UInt8), (121 : UInt8), (112 : UInt8), (116 : UInt8), (111 : UInt8), (103 : UInt8), (114 : UInt8), (97 : UInt8), (112 : UInt8), (104 : UInt8), (105 : UInt8), (99 : UInt8), (32 : UInt8), (70 : UInt8), (111 : UInt8), (114 : UInt8), (117 : UInt8), (109 : UInt8), (32 : UInt8), (82 : UInt8), (101 : UInt8), (115 : UInt8), (101 : UInt8), (97 : UInt8), (114 : UInt8), (99 : UInt8), (104 : UInt8), (32 : UInt8), (71 : UInt8), (114 : UInt8), (111 : UInt8), (117 : UInt8), (112 : UInt8)] w31 (R19.below B36) R32 (by rfl)) ?_
  rintro _ w41 ⟨p37, rfl, O38, B39⟩
  have B42 : Below w.heap.size w w41 := below_full B35 B35.size B39
  have B43 : Below w18.heap.size w18 w41 := below_full B36 B36.size B39
  have B44 : Below w31.heap.size w31 w41 := B39
  refine EL_val (.tuple #[p37, .int .i64 0]) w41 rfl (r_move rfl) ?_
  refine EL_val p37 w41 rfl (r_extract rfl rfl) ?_
  refine EL_val (.int .i64 0) w41 rfl (r_extract rfl rfl) ?_
  refine EL_val p37 w41 rfl (r_assign rfl) ?_
  refine EL_val (.int .i64 0) w41 rfl (r_assign rfl) ?_
  refine EL_nil ?_
  refine thn_n ?_
  refine EC_seq ?_
  refine EC_reg ?_
  refine EL_val (.int .i64 0) w41 rfl (r_move rfl) ?_
  refine EL_val (.bool true) w41 rfl (r_dec (by decide) (r_eql rfl rfl)) ?_
  refine EL_val (.bool true) w41 rfl (r_move rfl) ?_
  refine EL_gval 13 rfl rfl rfl rfl p37 w41 rfl (r_move rfl) ?_
  refine EL_gval 13 rfl rfl rfl rfl (.string (str (tag [(133 : UInt8), (214 : UInt8), (190 : UInt8), (120 : UInt8), (87 : UInt8), (85 : UInt8), (109 : UInt8), (51 : UInt8), (127 : UInt8), (68 : UInt8), (82 : UInt8), (254 : UInt8), (66 : UInt8), (213 : UInt8), (6 : UInt8), (168 : UInt8), (1 : UInt8), (3 : UInt8), (128 : UInt8), (138 : UInt8), (251 : UInt8), (13 : UInt8), (178 : UInt8), (253 : UInt8), (74 : UInt8), (191 : UInt8), (246 : UInt8), (175 : UInt8), (65 : UInt8), (73 : UInt8), (245 : UInt8), (27 : UInt8)] [(67 : UInt8), (114 : UInt8), (121 : UInt8), (112 : UInt8), (116 : UInt8), (111 : UInt8), (103 : UInt8), (114 : UInt8), (97 : UInt8), (112 : UInt8), (104 : UInt8), (105 : UInt8), (99 : UInt8), (32 : UInt8), (70 : UInt8), (111 : UInt8), (114 : UInt8), (117 : UInt8), (109 : UInt8), (32 : UInt8), (82 : UInt8), (101 : UInt8), (115 : UInt8), (101 : UInt8), (97 : UInt8), (114 : UInt8), (99 : UInt8), (104 : UInt8), (32 : UInt8), (71 : UInt8), (114 : UInt8), (111 : UInt8), (117 : UInt8), (112 : UInt8)]))) w41 rfl (r_str rfl (own_row O38) Try.underlying22 Try.underlying5 Try.underlying9) ?_
  refine EL_gval 13 rfl rfl rfl rfl (.bool true) w41 rfl (r_dec (show (decide ((tag [(133 : UInt8), (214 : UInt8), (190 : UInt8), (120 : UInt8), (87 : UInt8), (85 : UInt8), (109 : UInt8), (51 : UInt8), (127 : UInt8), (68 : UInt8), (82 : UInt8), (254 : UInt8), (66 : UInt8), (213 : UInt8), (6 : UInt8), (168 : UInt8), (1 : UInt8), (3 : UInt8), (128 : UInt8), (138 : UInt8), (251 : UInt8), (13 : UInt8), (178 : UInt8), (253 : UInt8), (74 : UInt8), (191 : UInt8), (246 : UInt8), (175 : UInt8), (65 : UInt8), (73 : UInt8), (245 : UInt8), (27 : UInt8)] [(67 : UInt8), (114 : UInt8), (121 : UInt8), (112 : UInt8), (116 : UInt8), (111 : UInt8), (103 : UInt8), (114 : UInt8), (97 : UInt8), (112 : UInt8), (104 : UInt8), (105 : UInt8), (99 : UInt8), (32 : UInt8), (70 : UInt8), (111 : UInt8), (114 : UInt8), (117 : UInt8), (109 : UInt8), (32 : UInt8), (82 : UInt8), (101 : UInt8), (115 : UInt8), (101 : UInt8), (97 : UInt8), (114 : UInt8), (99 : UInt8), (104 : UInt8), (32 : UInt8), (71 : UInt8), (114 : UInt8), (111 : UInt8), (117 : UInt8), (112 : UInt8)]) = ([168, 6, 29, 193, 48, 81, 54, 198, 194, 43, 139, 175, 12, 1, 39, 169] : List UInt8))) = true from by rw [ank_tag]; rfl) (r_eqls rfl rfl)) ?_
  refine EL_val (.bool true) w41 rfl (r_pickT rfl rfl) ?_
  refine EL_val (.bool true) w41 rfl (r_assign rfl) ?_
  refine EL_nil ?_
  refine thn_n ?_
  refine EC_ret ?_
  refine fin1 Try.results9 (show _ = .bool true from rfl) ⟨_, rfl, ?_⟩
  exact ⟨rfl, B42⟩

end Go.Proofs.Ytofclhmajgicdaa
