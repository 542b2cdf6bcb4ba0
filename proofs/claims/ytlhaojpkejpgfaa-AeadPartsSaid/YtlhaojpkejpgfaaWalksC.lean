import Derived.Test.YtlhaojpkejpgfaaWalksB
set_option linter.unusedVariables false
set_option linter.unusedSimpArgs false
namespace Go.Proofs.Ytlhaojpkejpgfaa
open Go.RowKit Go.Ecal

set_option maxRecDepth 100000 in
set_option maxHeartbeats 4000000 in
theorem anchor_c (w : World) : Ret Try.prog 9 [] w fun v w' => v = .bool true ∧ Below w.heap.size w w' := by
  refine ret_E Try.func9 rfl Try.ntmps9 (by simp) ?_
  refine EC_seq ?_
  refine EC_reg ?_
  refine EL_val (.bool false) w rfl (r_assign rfl) ?_
  refine EL_nil ?_
  refine thn_n ?_
  refine EC_cut (fun E' w' => ∃ kv : Value, ∃ nv : Value, E' 1 = kv ∧ E' 2 = nv ∧ E' 0 = .bool false ∧ Below w.heap.size w w' ∧ Bs w' kv (List.replicate 32 (0 : UInt8)) ∧ Bs w' nv (List.replicate 12 (0 : UInt8))) ?_ ?_
  · refine EC_held (fun w' => Below w.heap.size w w') (by kernel_rfl) ?_
    intro w11 B12 z13
    have B14 : Below w.heap.size w w11 := B12
    refine EA_strong (fun w' => Below w11.heap.size w11 w') (fun _ hw => below_full B14 B14.size hw) ?_
    refine EA_two 0 1 (by kernel_rfl) ⟨_, rfl, ?_⟩ ⟨_, rfl, ?_⟩
    · refine EL_make w11.heap.size elB rfl rfl rfl rfl (by omega) (by omega) (by omega) (by omega) (Nat.le_refl _) ?_
      intro v15 w16 O17 B18 k19 z20
      have B21 : Below w.heap.size w w16 := below_full B14 B14.size B18
      have B22 : Below w11.heap.size w11 w16 := B18
      have O23 := own_rep O17
      refine EL_nil ?_
      refine ⟨rfl, B22, ?_⟩
      refine EA_strong (fun w' => Below w16.heap.size w16 w') (fun _ hw => below_full B22 B22.size hw) ?_
      refine EA_take 2 rfl (by kernel_rfl) (by kernel_rfl) (by kernel_rfl) v15 rfl (fun _ hw => r_assign rfl) (Below.refl _ _) ?_
      refine EA_one 1 rfl (by kernel_rfl) ?_
      refine EL_make w16.heap.size elB rfl rfl rfl rfl (by omega) (by omega) (by omega) (by omega) (Nat.le_refl _) ?_
      intro v24 w25 O26 B27 k28 z29
      have B30 : Below w.heap.size w w25 := below_full B21 B21.size B27
      have B31 : Below w11.heap.size w11 w25 := below_full B22 B22.size B27
      have B32 : Below w16.heap.size w16 w25 := B27
      have O33 := own_rep O26
      refine EL_nil ?_
      refine ⟨rfl, B32, ?_⟩
      refine EA_strong (fun w' => Below w25.heap.size w25 w') (fun _ hw => below_full B32 B32.size hw) ?_
      refine EA_take 3 rfl (by kernel_rfl) (by kernel_rfl) (by kernel_rfl) v24 rfl (fun _ hw => r_assign rfl) (Below.refl _ _) ?_
      refine EA_done (by kernel_rfl) ?_
      refine thn_n ?_
      exact ⟨v15, v24, rfl, rfl, rfl, B30, ((own_row O23).below B32), (own_row O33)⟩
    · refine EL_make w11.heap.size elB rfl rfl rfl rfl (by omega) (by omega) (by omega) (by omega) (Nat.le_refl _) ?_
      intro v34 w35 O36 B37 k38 z39
      have B40 : Below w.heap.size w w35 := below_full B14 B14.size B37
      have B41 : Below w11.heap.size w11 w35 := B37
      have O42 := own_rep O36
      refine EL_nil ?_
      refine ⟨rfl, B41, ?_⟩
      refine EA_strong (fun w' => Below w35.heap.size w35 w') (fun _ hw => below_full B41 B41.size hw) ?_
      refine EA_one 0 rfl (by kernel_rfl) ?_
      refine EL_make w35.heap.size elB rfl rfl rfl rfl (by omega) (by omega) (by omega) (by omega) (Nat.le_refl _) ?_
      intro v43 w44 O45 B46 k47 z48
      have B49 : Below w.heap.size w w44 := below_full B40 B40.size B46
      have B50 : Below w11.heap.size w11 w44 := below_full B41 B41.size B46
      have B51 : Below w35.heap.size w35 w44 := B46
      have O52 := own_rep O45
      refine EL_nil ?_
      refine ⟨rfl, B51, ?_⟩
      refine EA_strong (fun w' => Below w44.heap.size w44 w') (fun _ hw => below_full B51 B51.size hw) ?_
      refine EA_take 2 rfl (by kernel_rfl) (by kernel_rfl) (by kernel_rfl) v43 rfl (fun _ hw => r_assign rfl) (Below.refl _ _) ?_
      refine EA_take 3 rfl (by kernel_rfl) (by kernel_rfl) (by kernel_rfl) v34 rfl (fun _ hw => r_assign rfl) (Below.refl _ _) ?_
      refine EA_done (by kernel_rfl) ?_
      refine thn_n ?_
      exact ⟨v43, v34, rfl, rfl, rfl, B49, (own_row O52), ((own_row O42).below B51)⟩
  · rintro E53 w54 ⟨kv, nv, e55, e56, e57, B58, R59, R60⟩
    refine EC_seq ?_
    refine EC_reg ?_
    refine EL_val kv w54 rfl (r_move (by exact e55)) ?_
    refine EL_val nv w54 rfl (r_move (by exact e56)) ?_
    refine EL_lit w54.heap.size #[.int .u8 120] elB rfl (by decide) rfl (Nat.le_refl _) (by kernel_rfl) ?_
    intro v61 w62 O63 B64 k65 z66
    have B67 : Below w.heap.size w w62 := below_full B58 B58.size B64
    have B68 : Below w54.heap.size w54 w62 := B64
    have O63' := own_eq (l := [(120 : UInt8)]) O63 (by simp [bof_val, byt])
    refine EL_mark (v := v61) rfl rfl O63' (by simp) Try.underlying22 Try.underlying5 ?_
    intro w69 R70 G71 z72
    have B73 : Below w.heap.size w w69 := below_grew B67 G71 O63' B58.size (B67.size)
    have B74 : Below w54.heap.size w54 w69 := below_grew B68 G71 O63' (Nat.le_refl _) (B68.size)
    refine EL_lit w69.heap.size #[.int .u8 97, .int .u8 98, .int .u8 99] elB rfl (by decide) rfl (Nat.le_refl _) (by kernel_rfl) ?_
    intro v75 w76 O77 B78 k79 z80
    have B81 : Below w.heap.size w w76 := below_full B73 B73.size B78
    have B82 : Below w54.heap.size w54 w76 := below_full B74 B74.size B78
    have B83 : Below w69.heap.size w69 w76 := B78
    have O77' := own_eq (l := [(97 : UInt8), (98 : UInt8), (99 : UInt8)]) O77 (by simp [bof_val, byt])
    refine EL_mark (v := v75) rfl rfl O77' (by simp) Try.underlying22 Try.underlying5 ?_
    intro w84 R85 G86 z87
    have B88 : Below w.heap.size w w84 := below_grew B81 G86 O77' B73.size (B81.size)
    have B89 : Below w54.heap.size w54 w84 := below_grew B82 G86 O77' B74.size (B82.size)
    have B90 : Below w69.heap.size w69 w84 := below_grew B83 G86 O77' (Nat.le_refl _) (B83.size)
    refine EL_ret [kv, nv, v61, v75] rfl Try.func10 rfl nm10 rfl (Seal_ok kv (List.replicate 32 (0 : UInt8)) nv (List.replicate 12 (0 : UInt8)) v61 [(120 : UInt8)] v75 [(97 : UInt8), (98 : UInt8), (99 : UInt8)] w84 (R59.below B89) (R60.below B89) (R70.below B90) R85 (by first | omega | (simp; done) | (simp; omega)) (by first | omega | (simp; done) | (simp; omega)) (by first | omega | (simp; done) | (simp; omega)) (by first | omega | (simp; done) | (simp; omega))) ?_
    rintro _ w94 ⟨p91, rfl, O92, B93⟩
    have B95 : Below w.heap.size w w94 := below_full B88 B88.size B93
    have B96 : Below w54.heap.size w54 w94 := below_full B89 B89.size B93
    have B97 : Below w69.heap.size w69 w94 := below_full B90 B90.size B93
    have B98 : Below w84.heap.size w84 w94 := B93
    have L99 := box_len (List.replicate 32 (0 : UInt8)) (List.replicate 12 (0 : UInt8)) [(120 : UInt8)] [(97 : UInt8), (98 : UInt8), (99 : UInt8)]
    refine EL_val (.tuple #[p91, .int .i64 0]) w94 rfl (r_move rfl) ?_
    refine EL_val p91 w94 rfl (r_extract rfl rfl) ?_
    refine EL_val (.int .i64 0) w94 rfl (r_extract rfl rfl) ?_
    refine EL_val p91 w94 rfl (r_assign rfl) ?_
    refine EL_val (.int .i64 0) w94 rfl (r_assign rfl) ?_
    refine EL_nil ?_
    refine thn_n ?_
    refine EC_seq ?_
    refine EC_seq ?_
    refine EC_reg ?_
    refine EL_val (.int .i64 0) w94 rfl (r_move rfl) ?_
    refine EL_val (.bool false) w94 rfl (r_dec (by decide) (r_neq rfl rfl)) ?_
    refine EL_val (.bool false) w94 rfl (r_move rfl) ?_
    refine EL_gval 23 rfl rfl rfl rfl p91 w94 rfl (r_move rfl) ?_
    refine EL_gval 23 rfl rfl rfl rfl (.int .i64 ((box (List.replicate 32 (0 : UInt8)) (List.replicate 12 (0 : UInt8)) [(120 : UInt8)] [(97 : UInt8), (98 : UInt8), (99 : UInt8)]).length : Int)) w94 rfl (lenB (r_len rfl (own_row O92) Try.underlying22)) ?_
    refine EL_gval 23 rfl rfl rfl rfl (.bool false) w94 rfl (r_dec (show (decide (((box (List.replicate 32 (0 : UInt8)) (List.replicate 12 (0 : UInt8)) [(120 : UInt8)] [(97 : UInt8), (98 : UInt8), (99 : UInt8)]).length : Int) ≠ 19)) = false from by rw [box_len]; rfl) (r_neq rfl rfl)) ?_
    refine EL_val (.bool false) w94 rfl (r_pickF rfl rfl) ?_
    refine EL_nil ?_
    refine thn_n ?_
    refine EC_cond_false rfl ?_
    refine EC_skip ?_
    refine thn_n ?_
    refine EC_seq ?_
    refine EC_reg ?_
    refine EL_val kv w94 rfl (r_move (by exact e55)) ?_
    refine EL_val nv w94 rfl (r_move (by exact e56)) ?_
    refine EL_lit w94.heap.size #[.int .u8 120] elB rfl (by decide) rfl (Nat.le_refl _) (by kernel_rfl) ?_
    intro v100 w101 O102 B103 k104 z105
    have B106 : Below w.heap.size w w101 := below_full B95 B95.size B103
    have B107 : Below w54.heap.size w54 w101 := below_full B96 B96.size B103
    have B108 : Below w69.heap.size w69 w101 := below_full B97 B97.size B103
    have B109 : Below w84.heap.size w84 w101 := below_full B98 B98.size B103
    have B110 : Below w94.heap.size w94 w101 := B103
    have O102' := own_eq (l := [(120 : UInt8)]) O102 (by simp [bof_val, byt])
    refine EL_mark (v := v100) rfl rfl O102' (by simp) Try.underlying22 Try.underlying5 ?_
    intro w111 R112 G113 z114
    have B115 : Below w.heap.size w w111 := below_grew B106 G113 O102' B95.size (B106.size)
    have B116 : Below w54.heap.size w54 w111 := below_grew B107 G113 O102' B96.size (B107.size)
    have B117 : Below w69.heap.size w69 w111 := below_grew B108 G113 O102' B97.size (B108.size)
    have B118 : Below w84.heap.size w84 w111 := below_grew B109 G113 O102' B98.size (B109.size)
    have B119 : Below w94.heap.size w94 w111 := below_grew B110 G113 O102' (Nat.le_refl _) (B110.size)
    refine EL_val p91 w111 rfl (r_move rfl) ?_
    have L123 := xo_len (List.replicate 32 (0 : UInt8)) 1 (List.replicate 12 (0 : UInt8)) ((box (List.replicate 32 (0 : UInt8)) (List.replicate 12 (0 : UInt8)) [(120 : UInt8)] [(97 : UInt8), (98 : UInt8), (99 : UInt8)]).take ((box (List.replicate 32 (0 : UInt8)) (List.replicate 12 (0 : UInt8)) [(120 : UInt8)] [(97 : UInt8), (98 : UInt8), (99 : UInt8)]).length - 16))
    refine EL_ret [kv, nv, v100, p91] rfl Try.func12 rfl nm12 rfl (Open_ok kv (List.replicate 32 (0 : UInt8)) nv (List.replicate 12 (0 : UInt8)) v100 [(120 : UInt8)] p91 (box (List.replicate 32 (0 : UInt8)) (List.replicate 12 (0 : UInt8)) [(120 : UInt8)] [(97 : UInt8), (98 : UInt8), (99 : UInt8)]) w111 (R59.below B116) (R60.below B116) R112 ((own_row O92).below B119) (by first | omega | (simp; done) | (simp; omega)) (by first | omega | (simp; done) | (simp; omega)) (by first | omega | (simp; done) | (simp; omega)) (by first | omega | (rw [box_len]; decide) | (simp; done) | (simp; omega)) (box_is _ _ _ _)) ?_
    rintro _ w124 ⟨p120, rfl, O121, B122⟩
    have B125 : Below w.heap.size w w124 := below_full B115 B115.size B122
    have B126 : Below w54.heap.size w54 w124 := below_full B116 B116.size B122
    have B127 : Below w69.heap.size w69 w124 := below_full B117 B117.size B122
    have B128 : Below w84.heap.size w84 w124 := below_full B118 B118.size B122
    have B129 : Below w94.heap.size w94 w124 := below_full B119 B119.size B122
    have B130 : Below w111.heap.size w111 w124 := B122
    refine EL_val (.tuple #[p120, .int .i64 0]) w124 rfl (r_move rfl) ?_
    refine EL_val p120 w124 rfl (r_extract rfl rfl) ?_
    refine EL_val (.int .i64 0) w124 rfl (r_extract rfl rfl) ?_
    refine EL_val p120 w124 rfl (r_assign rfl) ?_
    refine EL_val (.int .i64 0) w124 rfl (r_assign rfl) ?_
    refine EL_nil ?_
    refine thn_n ?_
    refine EC_seq ?_
    refine EC_reg ?_
    refine EL_val kv w124 rfl (r_move (by exact e55)) ?_
    refine EL_val nv w124 rfl (r_move (by exact e56)) ?_
    refine EL_lit w124.heap.size #[.int .u8 121] elB rfl (by decide) rfl (Nat.le_refl _) (by kernel_rfl) ?_
    intro v131 w132 O133 B134 k135 z136
    have B137 : Below w.heap.size w w132 := below_full B125 B125.size B134
    have B138 : Below w54.heap.size w54 w132 := below_full B126 B126.size B134
    have B139 : Below w69.heap.size w69 w132 := below_full B127 B127.size B134
    have B140 : Below w84.heap.size w84 w132 := below_full B128 B128.size B134
    have B141 : Below w94.heap.size w94 w132 := below_full B129 B129.size B134
    have B142 : Below w111.heap.size w111 w132 := below_full B130 B130.size B134
    have B143 : Below w124.heap.size w124 w132 := B134
    have O133' := own_eq (l := [(121 : UInt8)]) O133 (by simp [bof_val, byt])
    refine EL_mark (v := v131) rfl rfl O133' (by simp) Try.underlying22 Try.underlying5 ?_
    intro w144 R145 G146 z147
    have B148 : Below w.heap.size w w144 := below_grew B137 G146 O133' B125.size (B137.size)
    have B149 : Below w54.heap.size w54 w144 := below_grew B138 G146 O133' B126.size (B138.size)
    have B150 : Below w69.heap.size w69 w144 := below_grew B139 G146 O133' B127.size (B139.size)
    have B151 : Below w84.heap.size w84 w144 := below_grew B140 G146 O133' B128.size (B140.size)
    have B152 : Below w94.heap.size w94 w144 := below_grew B141 G146 O133' B129.size (B141.size)
    have B153 : Below w111.heap.size w111 w144 := below_grew B142 G146 O133' B130.size (B142.size)
    have B154 : Below w124.heap.size w124 w144 := below_grew B143 G146 O133' (Nat.le_refl _) (B143.size)
    refine EL_val p91 w144 rfl (r_move rfl) ?_
    refine EL_ret [kv, nv, v131, p91] rfl Try.func12 rfl nm12 rfl (Open_nobox kv (List.replicate 32 (0 : UInt8)) nv (List.replicate 12 (0 : UInt8)) v131 [(121 : UInt8)] p91 (box (List.replicate 32 (0 : UInt8)) (List.replicate 12 (0 : UInt8)) [(120 : UInt8)] [(97 : UInt8), (98 : UInt8), (99 : UInt8)]) w144 (R59.below B149) (R60.below B149) R145 ((own_row O92).below B152) (by first | omega | (simp; done) | (simp; omega)) (by first | omega | (simp; done) | (simp; omega)) (by first | omega | (simp; done) | (simp; omega)) (by first | omega | (rw [box_len]; decide) | (simp; done) | (simp; omega)) ank_no) ?_
    rintro _ w155 ⟨rfl, B156⟩
    have B157 : Below w.heap.size w w155 := below_full B148 B148.size B156
    have B158 : Below w54.heap.size w54 w155 := below_full B149 B149.size B156
    have B159 : Below w69.heap.size w69 w155 := below_full B150 B150.size B156
    have B160 : Below w84.heap.size w84 w155 := below_full B151 B151.size B156
    have B161 : Below w94.heap.size w94 w155 := below_full B152 B152.size B156
    have B162 : Below w111.heap.size w111 w155 := below_full B153 B153.size B156
    have B163 : Below w124.heap.size w124 w155 := below_full B154 B154.size B156
    have B164 : Below w144.heap.size w144 w155 := B156
    refine EL_val (.tuple #[.slice none 0 0, .int .i64 20]) w155 rfl (r_move rfl) ?_
    refine EL_val (.slice none 0 0) w155 rfl (r_extract rfl rfl) ?_
    refine EL_val (.int .i64 20) w155 rfl (r_extract rfl rfl) ?_
    refine EL_val (.slice none 0 0) w155 rfl (r_assign rfl) ?_
    refine EL_val (.int .i64 20) w155 rfl (r_assign rfl) ?_
    refine EL_nil ?_
    refine thn_n ?_
    refine EC_seq ?_
    refine EC_reg ?_
    refine EL_val (.int .i64 0) w155 rfl (r_move rfl) ?_
    refine EL_val (.bool true) w155 rfl (r_dec (by decide) (r_eql rfl rfl)) ?_
    refine EL_val (.bool true) w155 rfl (r_move rfl) ?_
    refine EL_gval 48 rfl rfl rfl rfl p120 w155 rfl (r_move rfl) ?_
    refine EL_gval 48 rfl rfl rfl rfl (.string (str (xo (List.replicate 32 (0 : UInt8)) 1 (List.replicate 12 (0 : UInt8)) ((box (List.replicate 32 (0 : UInt8)) (List.replicate 12 (0 : UInt8)) [(120 : UInt8)] [(97 : UInt8), (98 : UInt8), (99 : UInt8)]).take ((box (List.replicate 32 (0 : UInt8)) (List.replicate 12 (0 : UInt8)) [(120 : UInt8)] [(97 : UInt8), (98 : UInt8), (99 : UInt8)]).length - 16))))) w155 rfl (r_str rfl ((own_row O121).below B163) Try.underlying22 Try.underlying5 Try.underlying9) ?_
    refine EL_gval 48 rfl rfl rfl rfl (.bool true) w155 rfl (r_dec (show (decide ((xo (List.replicate 32 (0 : UInt8)) 1 (List.replicate 12 (0 : UInt8)) ((box (List.replicate 32 (0 : UInt8)) (List.replicate 12 (0 : UInt8)) [(120 : UInt8)] [(97 : UInt8), (98 : UInt8), (99 : UInt8)]).take ((box (List.replicate 32 (0 : UInt8)) (List.replicate 12 (0 : UInt8)) [(120 : UInt8)] [(97 : UInt8), (98 : UInt8), (99 : UInt8)]).length - 16))) = ([97, 98, 99] : List UInt8))) = true from by rw [box_head, xo_xo]; rfl) (r_eqls rfl rfl)) ?_
    refine EL_val (.bool true) w155 rfl (r_pickT rfl rfl) ?_
    refine EL_val (.bool true) w155 rfl (r_move rfl) ?_
    refine EL_gval 53 rfl rfl rfl rfl (.int .i64 20) w155 rfl (r_move rfl) ?_
    refine EL_gval 53 rfl rfl rfl rfl (.bool true) w155 rfl (r_dec (by decide) (r_eql rfl rfl)) ?_
    refine EL_val (.bool true) w155 rfl (r_pickT rfl rfl) ?_
    refine EL_val (.bool true) w155 rfl (r_assign rfl) ?_
    refine EL_nil ?_
    refine thn_n ?_
    refine EC_ret ?_
    refine fin1 Try.results9 (show _ = .bool true from rfl) ⟨_, rfl, ?_⟩
    exact ⟨rfl, B157⟩

end Go.Proofs.Ytlhaojpkejpgfaa
