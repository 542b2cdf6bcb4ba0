/-
  With a first half of just 1, the tag of a text of at most sixteen bytes is the number of them, with a 1 behind, and the second half, modulo 2^130 - 5 and 2^128.
  Its conditions: none: whatever the input, in whatever memory.
-/
import Derived.Test.YtofclhmajgicdaaRows
import Derived.Test.YtofclhmajgicdaaWalksJ
import Derived.ProofKit
import Derived.OpenShut
import Derived.ShutString
import Derived.ChangeOld
set_option linter.unusedVariables false
set_option linter.unusedSimpArgs false
namespace Go.Proofs.Ytofclhmajgicdaa.polyOne
open Go.ChangeShapes Go.WideShapes Go.ChangeAt Go.RowKit Go.Ecal
open Go.ChangeMaps (open_string shut_string)
set_option maxRecDepth 100000 in
set_option maxHeartbeats 4000000 in
theorem PolyOne_c (s : List UInt8) (v1 : Value) (t : List UInt8) (w : World) (hs : s.length = 16) (H1 : Bs w v1 t) : Ret Try.prog 8 [.agg (s.map byt).toArray, v1] w fun v w' => v = .bool true ∧ Below w.heap.size w w' := by
  refine ret_E Try.func8 rfl Try.ntmps8 (by simp) ?_
  refine EC_seq ?_
  refine EC_reg ?_
  refine EL_box (s.map byt) rfl rfl rfl ?_
  intro b11 w12 k13 A14 B15 z16
  have B18 : Below w.heap.size w w12 := B15
  have R17 : Bs w12 (.slice (some ⟨b11, 0, none⟩) 16 16) s := barr_row A14 (by omega) (by decide)
  refine EL_val (.bool false) w12 rfl (r_assign rfl) ?_
  refine EL_nil ?_
  refine thn_n ?_
  refine EC_seq ?_
  refine EC_seq ?_
  refine EC_reg ?_
  refine EL_ret [] rfl Try.func9 rfl nm9 rfl (anchor_c w12) ?_
  rintro _ w19 ⟨rfl, B20⟩
  have B21 : Below w.heap.size w w19 := below_full B18 B18.size B20
  have B22 : Below w12.heap.size w12 w19 := B20
  refine EL_val (.bool false) w19 rfl (r_dec (show (!true) = false from rfl) (r_not rfl)) ?_
  refine EL_nil ?_
  refine thn_n ?_
  refine EC_cond_false rfl ?_
  refine EC_skip ?_
  refine thn_n ?_
  refine EC_seq ?_
  refine EC_seq ?_
  refine EC_reg ?_
  refine EL_val v1 w19 rfl (r_move rfl) ?_
  refine EL_val (.int .i64 (t.length : Int)) w19 rfl (lenB (r_len rfl (H1.below B21) Try.underlying22)) ?_
  refine EL_val (.bool (decide ((t.length : Int) < 1))) w19 rfl (r_lss rfl rfl) ?_
  refine EL_val (.bool (decide ((t.length : Int) < 1))) w19 rfl (r_move rfl) ?_
  refine EL_gite 15 rfl rfl rfl v1 rfl (fun g23 => r_move rfl) ?_
  refine EL_gite 15 rfl rfl rfl (.int .i64 (t.length : Int)) rfl (fun g24 => lenB (r_len (cond_of g24 rfl) (H1.below B21) Try.underlying22)) ?_
  refine EL_gite 15 rfl rfl rfl (.bool (decide (15 < (t.length : Int)))) rfl (fun g25 => r_gtr (cond_of g25 rfl) rfl) ?_
  refine EL_val (.bool ((decide ((t.length : Int) < 1)) || (decide (15 < (t.length : Int))))) w19 rfl (r_or rfl rfl rfl) ?_
  refine EL_nil ?_
  refine thn_n ?_
  refine EC_cond (t := (decide ((t.length : Int) < 1)) || (decide (15 < (t.length : Int)))) rfl (fun h26 => ?_) (fun h26 => ?_)
  · simp at h26
    refine EC_seq ?_
    refine EC_reg ?_
    refine EL_val (.bool true) w19 rfl (r_assign rfl) ?_
    refine EL_nil ?_
    refine thn_n ?_
    refine EC_ret ?_
    refine thn_r ?_
    refine fin1 Try.results8 (show _ = .bool true from rfl) ⟨_, rfl, ?_⟩
    exact ⟨rfl, B21⟩
  · simp at h26
    refine EC_skip ?_
    refine thn_n ?_
    refine EC_seq ?_
    refine EC_until 5 (by kernel_rfl) ?_
    intro w27 B28 z29
    have B30 : Below w.heap.size w w27 := below_full B21 B21.size B28
    have B31 : Below w12.heap.size w12 w27 := below_full B22 B22.size B28
    have B32 : Below w19.heap.size w19 w27 := B28
    refine EH_take 2 rfl (by kernel_rfl) (by kernel_rfl) (by kernel_rfl) rfl 40 (by kernel_rfl) (.slice (some ⟨b11, 0, none⟩) 16 16) rfl (fun _ hw => r_sliceA rfl Try.underlying30 (by kernel_rfl)) (Below.refl _ _) ?_
    refine EH_take 4 rfl (by kernel_rfl) (by kernel_rfl) (by kernel_rfl) rfl 40 (by kernel_rfl) v1 rfl (fun _ hw => r_move rfl) (Below.refl _ _) ?_
    refine EH_one 0 (by kernel_rfl) ⟨_, rfl, ?_⟩
    refine EL_lit w27.heap.size #[.int .u8 1] elB rfl (by decide) rfl (Nat.le_refl _) (by kernel_rfl) ?_
    intro v33 w34 O35 B36 k37 z38
    have B39 : Below w.heap.size w w34 := below_full B30 B30.size B36
    have B40 : Below w12.heap.size w12 w34 := below_full B31 B31.size B36
    have B41 : Below w19.heap.size w19 w34 := below_full B32 B32.size B36
    have B42 : Below w27.heap.size w27 w34 := B36
    have O35' := own_eq (l := [(1 : UInt8)]) O35 (by simp [bof_val, byt])
    refine EL_nil ?_
    refine ⟨rfl, .inr B42, ?_⟩
    refine EH_one 1 (by kernel_rfl) ⟨_, rfl, ?_⟩
    refine EL_appendz (v := v33) (xs := [(1 : UInt8)].map byt) elB rfl rfl Try.underlying3 w27.heap.size rfl rfl rfl (by omega) (by simpa using O35') (by first | (simp only [List.length_map, List.length_nil]; omega) | (simp; done) | (simp; omega)) (by decide) B42.size ?_
    intro v43 w44 O45 G46 A47
    have O45' := own_appz O45
    have B48 : Below w.heap.size w w44 := below_grew B39 G46 O35' B30.size (B39.size)
    have B49 : Below w12.heap.size w12 w44 := below_grew B40 G46 O35' B31.size (B40.size)
    have B50 : Below w19.heap.size w19 w44 := below_grew B41 G46 O35' B32.size (B41.size)
    have B51 : Below w27.heap.size w27 w44 := below_grew B42 G46 O35' (Nat.le_refl _) (B42.size)
    refine EL_nil ?_
    refine ⟨rfl, .inr B51, ?_⟩
    refine EH_one 3 (by kernel_rfl) ⟨_, rfl, ?_⟩
    refine EL_append (v := v43) (xs := ([(1 : UInt8)] ++ List.replicate (15 : Int).toNat (0 : UInt8)).map byt) (ys := s.map byt) w27.heap.size elB rfl rfl rfl (by simpa using O45') (R17.below B49) (byt_one _) (by first | (simp only [List.length_map, List.length_nil]; omega) | (simp; done) | (simp; omega)) (by decide) B51.size ?_
    intro v52 w53 O54 G55 A56
    have O54' := own_app O54
    have B57 : Below w.heap.size w w53 := below_grew B48 G55 O45' B30.size (B48.size)
    have B58 : Below w12.heap.size w12 w53 := below_grew B49 G55 O45' B31.size (B49.size)
    have B59 : Below w19.heap.size w19 w53 := below_grew B50 G55 O45' B32.size (B50.size)
    have B60 : Below w27.heap.size w27 w53 := below_grew B51 G55 O45' (Nat.le_refl _) (B51.size)
    refine EL_nil ?_
    refine ⟨rfl, .inr B60, ?_⟩
    refine EH_one 5 (by kernel_rfl) ⟨_, rfl, ?_⟩
    have L65 := tag_len (([(1 : UInt8)] ++ List.replicate (15 : Int).toNat (0 : UInt8)) ++ s) t
    refine EL_ret [v52, v1] rfl Try.func10 rfl nm10 rfl (Tag_ok v52 (([(1 : UInt8)] ++ List.replicate (15 : Int).toNat (0 : UInt8)) ++ s) v1 t w53 (own_row O54') (H1.below B57) (by first | omega | (simp; done) | (simp; omega))) ?_
    rintro _ w66 ⟨p62, rfl, O63, B64⟩
    have B67 : Below w.heap.size w w66 := below_full B57 B57.size B64
    have B68 : Below w12.heap.size w12 w66 := below_full B58 B58.size B64
    have B69 : Below w19.heap.size w19 w66 := below_full B59 B59.size B64
    have B70 : Below w27.heap.size w27 w66 := below_full B60 B60.size B64
    have B71 : Below w53.heap.size w53 w66 := B64
    refine EL_nil ?_
    refine ⟨rfl, .inl (by kernel_rfl), ?_⟩
    refine EH_float 6 rfl (by kernel_rfl) (by kernel_rfl) (by kernel_rfl) rfl (.inl (by kernel_rfl)) (.tuple #[p62, .int .i64 0]) rfl (fun _ => r_move rfl) ?_
    refine EH_float 7 rfl (by kernel_rfl) (by kernel_rfl) (by kernel_rfl) rfl (.inl (by kernel_rfl)) p62 rfl (fun _ => r_extract rfl rfl) ?_
    refine EH_float 8 rfl (by kernel_rfl) (by kernel_rfl) (by kernel_rfl) rfl (.inl (by kernel_rfl)) (.int .i64 0) rfl (fun _ => r_extract rfl rfl) ?_
    refine EH_float 9 rfl (by kernel_rfl) (by kernel_rfl) (by kernel_rfl) rfl (.inl (by kernel_rfl)) p62 rfl (fun _ => r_assign rfl) ?_
    refine EH_float 10 rfl (by kernel_rfl) (by kernel_rfl) (by kernel_rfl) rfl (.inl (by kernel_rfl)) (.int .i64 0) rfl (fun _ => r_assign rfl) ?_
    refine EH_done (by kernel_rfl) ?_
    refine thn_n ?_
    refine EC_seq ?_
    refine EC_seq ?_
    refine EC_reg ?_
    refine EL_val (.int .i64 0) w66 rfl (r_move rfl) ?_
    refine EL_val (.bool false) w66 rfl (r_dec (by decide) (r_neq rfl rfl)) ?_
    refine EL_val (.bool false) w66 rfl (r_move rfl) ?_
    refine EL_gval 31 rfl rfl rfl rfl p62 w66 rfl (r_move rfl) ?_
    refine EL_gval 31 rfl rfl rfl rfl (.int .i64 ((tag (([(1 : UInt8)] ++ List.replicate (15 : Int).toNat (0 : UInt8)) ++ s) t).length : Int)) w66 rfl (lenB (r_len rfl (own_row O63) Try.underlying22)) ?_
    refine EL_gval 31 rfl rfl rfl rfl (.bool false) w66 rfl (r_dec (show (decide (((tag (([(1 : UInt8)] ++ List.replicate (15 : Int).toNat (0 : UInt8)) ++ s) t).length : Int) ≠ 16)) = false from by rw [tag_len]; rfl) (r_neq rfl rfl)) ?_
    refine EL_val (.bool false) w66 rfl (r_pickF rfl rfl) ?_
    refine EL_nil ?_
    refine thn_n ?_
    refine EC_cond_false rfl ?_
    refine EC_skip ?_
    refine thn_n ?_
    refine EC_seq ?_
    refine EC_reg ?_
    refine EL_lit w66.heap.size #[] elB rfl (by decide) rfl (Nat.le_refl _) (by kernel_rfl) ?_
    intro v72 w73 O74 B75 k76 z77
    have B78 : Below w.heap.size w w73 := below_full B67 B67.size B75
    have B79 : Below w12.heap.size w12 w73 := below_full B68 B68.size B75
    have B80 : Below w19.heap.size w19 w73 := below_full B69 B69.size B75
    have B81 : Below w27.heap.size w27 w73 := below_full B70 B70.size B75
    have B82 : Below w53.heap.size w53 w73 := below_full B71 B71.size B75
    have B83 : Below w66.heap.size w66 w73 := B75
    have O74' := own_eq (l := ([] : List UInt8)) O74 (by simp [bof_val, byt])
    refine EL_val v1 w73 rfl (r_move rfl) ?_
    refine EL_append (v := v72) (xs := ([] : List UInt8).map byt) (ys := t.map byt) w66.heap.size elB rfl rfl rfl (by simpa using O74') (H1.below B78) (byt_one _) (by first | (simp only [List.length_map, List.length_nil]; omega) | (simp; done) | (simp; omega)) (by decide) B83.size ?_
    intro v84 w85 O86 G87 A88
    have O86' := own_app O86
    have B89 : Below w.heap.size w w85 := below_grew B78 G87 O74' B67.size (B78.size)
    have B90 : Below w12.heap.size w12 w85 := below_grew B79 G87 O74' B68.size (B79.size)
    have B91 : Below w19.heap.size w19 w85 := below_grew B80 G87 O74' B69.size (B80.size)
    have B92 : Below w27.heap.size w27 w85 := below_grew B81 G87 O74' B70.size (B81.size)
    have B93 : Below w53.heap.size w53 w85 := below_grew B82 G87 O74' B71.size (B82.size)
    have B94 : Below w66.heap.size w66 w85 := below_grew B83 G87 O74' (Nat.le_refl _) (B83.size)
    refine EL_lit w85.heap.size #[.int .u8 1] elB rfl (by decide) rfl (Nat.le_refl _) (by kernel_rfl) ?_
    intro v96 w97 O98 B99 k100 z101
    have B102 : Below w.heap.size w w97 := below_full B89 B89.size B99
    have B103 : Below w12.heap.size w12 w97 := below_full B90 B90.size B99
    have B104 : Below w19.heap.size w19 w97 := below_full B91 B91.size B99
    have B105 : Below w27.heap.size w27 w97 := below_full B92 B92.size B99
    have B106 : Below w53.heap.size w53 w97 := below_full B93 B93.size B99
    have B107 : Below w66.heap.size w66 w97 := below_full B94 B94.size B99
    have B108 : Below w85.heap.size w85 w97 := B99
    have O98' := own_eq (l := [(1 : UInt8)]) O98 (by simp [bof_val, byt])
    refine EL_append (v := v84) (xs := (([] : List UInt8) ++ t).map byt) (ys := [(1 : UInt8)].map byt) w66.heap.size elB rfl rfl rfl (by simpa using (own_below O86' B108)) (own_row O98') (byt_one _) (by first | (simp only [List.length_map, List.length_nil]; omega) | (simp; done) | (simp; omega)) (by decide) B107.size ?_
    intro v109 w110 O111 G112 A113
    have O111' := own_app O111
    have B114 : Below w.heap.size w w110 := below_grew B102 G112 (own_below O86' B108) B67.size (B102.size)
    have B115 : Below w12.heap.size w12 w110 := below_grew B103 G112 (own_below O86' B108) B68.size (B103.size)
    have B116 : Below w19.heap.size w19 w110 := below_grew B104 G112 (own_below O86' B108) B69.size (B104.size)
    have B117 : Below w27.heap.size w27 w110 := below_grew B105 G112 (own_below O86' B108) B70.size (B105.size)
    have B118 : Below w53.heap.size w53 w110 := below_grew B106 G112 (own_below O86' B108) B71.size (B106.size)
    have B119 : Below w66.heap.size w66 w110 := below_grew B107 G112 (own_below O86' B108) (Nat.le_refl _) (B107.size)
    refine EL_val v109 w110 rfl (r_assign rfl) ?_
    have ea : (([] : List UInt8) ++ t) ++ [(1 : UInt8)] = t ++ [1] := by simp
    have O122 := own_as O111' ea
    have hLa : (t ++ [1]).length = t.length + 1 := by simp
    have et : tag (([(1 : UInt8)] ++ List.replicate (15 : Int).toNat (0 : UInt8)) ++ s) t = tgn (num (t ++ [1]) + num s) 16 := by have e := tag_one (s := s) (t := t) (by omega) (by omega); simpa using e
    have O123 := own_as (own_below O63 B119) et
    have hLt : (tgn (num (t ++ [1]) + num s) 16).length = 16 := tgn_len _ _
    refine EL_nil ?_
    refine thn_n ?_
    refine EC_seq ?_
    refine EC_reg ?_
    refine EL_val (.int .i64 0) w110 rfl (r_assign rfl) ?_
    refine EL_nil ?_
    refine thn_n ?_
    refine EC_seq ?_
    refine EC_seq ?_
    refine EC_reg ?_
    refine EL_val (.int .i64 0) w110 rfl (r_move rfl) ?_
    refine EL_nil ?_
    refine thn_n ?_
    refine EC_block ?_
    refine EC_loop (fun m' E' w' => ∃ i : Int, ∃ c : Int, m' = (16 - i).toNat ∧ E' 41 = .int .i64 i ∧ E' 8 = .int .i64 c ∧ E' 2 = ptr b11 ∧ E' 5 = p62 ∧ E' 7 = v109 ∧ (0 ≤ i ∧ i ≤ 16) ∧ (0 ≤ c ∧ c ≤ 1) ∧ (c = (num (t ++ [1]) + num s) / 256 ^ i.toNat - num (t ++ [1]) / 256 ^ i.toNat - num s / 256 ^ i.toNat) ∧ Below w.heap.size w w' ∧ Below w12.heap.size w12 w' ∧ Below w19.heap.size w19 w' ∧ Below w27.heap.size w27 w' ∧ Below w53.heap.size w53 w' ∧ Below w66.heap.size w66 w' ∧ Below w110.heap.size w110 w') _ ⟨0, 0, rfl, rfl, rfl, rfl, rfl, rfl, by omega, by omega, by simp; omega, B114, B115, B116, B117, B118, B119, (Below.refl _ _)⟩ ?_
    rintro _ E124 w125 ⟨i, c, rfl, e126, e127, e128, e129, e130, hi, hc, hcv, B131, B132, B133, B134, B135, B136, B137⟩
    refine EC_seq ?_
    refine EC_reg ?_
    refine EL_val (.bool (decide (i < 16))) w125 rfl (r_lss (by exact e126) rfl) ?_
    refine EL_nil ?_
    refine thn_n ?_
    refine EC_seq ?_
    refine EC_if (p := i < 16) rfl (fun h138 => ?_) (fun h138 => ?_)
    · refine EC_skip ?_
      refine thn_n ?_
      refine EC_seq ?_
      refine EC_block ?_
      refine EC_seq ?_
      refine EC_reg ?_
      refine EL_val (.int .i64 i) w125 rfl (r_move (by exact e126)) ?_
      refine EL_val (.int .i64 i) w125 rfl (r_assign rfl) ?_
      refine EL_nil ?_
      refine thn_n ?_
      refine EC_seq ?_
      refine EC_reg ?_
      refine EL_val (.int .i64 c) w125 rfl (r_move (by exact e127)) ?_
      refine EL_val (.int .i64 i) w125 rfl (r_move rfl) ?_
      refine EL_val (ptr b11 ((i : Int).toNat)) w125 rfl (r_indexA (i := i) (by exact e128) rfl (by omega) (by omega) Try.underlying30 (by kernel_rfl)) ?_
      obtain ⟨b139, hb140⟩ := get_some (l := s) (j := (i : Int).toNat) (by first | omega | (simp; omega) | simp)
      have hb141 := b139.toNat_lt
      refine EL_val (.int .u8 (b139.toNat : Int)) w125 rfl (r_load rfl (row_cellA (R17.below B132) hb140) Try.underlying5 rfl) ?_
      refine EL_val (.int .i64 (b139.toNat : Int)) w125 rfl (r_convi 5 3 rfl Try.underlying5 Try.underlying3 (by omega)) ?_
      refine EL_int (c + (b139.toNat : Int)) rfl (r_addi rfl rfl (by omega)) ?_
      intro x142 hx142
      refine EL_val (.int .i64 x142) w125 rfl (r_assign rfl) ?_
      refine EL_nil ?_
      refine thn_n ?_
      refine EC_seq ?_
      refine EC_seq ?_
      refine EC_reg ?_
      refine EL_val (.int .i64 i) w125 rfl (r_move rfl) ?_
      refine EL_val v109 w125 rfl (r_move (by exact e130)) ?_
      refine EL_val (.int .i64 ((t ++ [1]).length : Int)) w125 rfl (lenB (r_len rfl ((own_row O122).below B137) Try.underlying22)) ?_
      refine EL_val (.bool (decide (i < ((t ++ [1]).length : Int)))) w125 rfl (r_lss rfl rfl) ?_
      refine EL_nil ?_
      refine thn_n ?_
      refine EC_if (p := i < ((t ++ [1]).length : Int)) rfl (fun h143 => ?_) (fun h143 => ?_)
      · refine EC_reg ?_
        refine EL_val (.int .i64 x142) w125 rfl (r_move rfl) ?_
        refine EL_val v109 w125 rfl (r_move (by exact e130)) ?_
        refine EL_val (.int .i64 i) w125 rfl (r_move rfl) ?_
        refine EL_val (.pointer (some (at_ v109 ((i : Int).toNat)))) w125 rfl (r_index rfl ((own_row O122).below B137) rfl (by omega) (by first | omega | (simp; omega) | simp) Try.underlying22 (by kernel_rfl)) ?_
        obtain ⟨b144, hb145⟩ := get_some (l := (t ++ [1])) (j := (i : Int).toNat) (by omega)
        have hb146 := b144.toNat_lt
        refine EL_val (.int .u8 (b144.toNat : Int)) w125 rfl (r_load rfl (((own_row O122).below B137).cell (bs_get hb145)) Try.underlying5 rfl) ?_
        refine EL_val (.int .i64 (b144.toNat : Int)) w125 rfl (r_convi 5 3 rfl Try.underlying5 Try.underlying3 (by omega)) ?_
        refine EL_int (x142 + (b144.toNat : Int)) rfl (r_addi rfl rfl (by omega)) ?_
        intro x147 hx147
        refine EL_val (.int .i64 x147) w125 rfl (r_assign rfl) ?_
        refine EL_nil ?_
        refine thn_n ?_
        refine EC_seq ?_
        refine EC_seq ?_
        refine EC_reg ?_
        refine EL_val p62 w125 rfl (r_move (by exact e129)) ?_
        refine EL_val (.int .i64 i) w125 rfl (r_move rfl) ?_
        refine EL_val (.pointer (some (at_ p62 ((i : Int).toNat)))) w125 rfl (r_index rfl ((own_row O123).below B137) rfl (by omega) (by first | omega | (simp; omega) | simp) Try.underlying22 (by kernel_rfl)) ?_
        obtain ⟨b148, hb149⟩ := get_some (l := tgn (num (t ++ [1]) + num s) 16) (j := (i : Int).toNat) (by omega)
        have hb150 := b148.toNat_lt
        refine EL_val (.int .u8 (b148.toNat : Int)) w125 rfl (r_load rfl (((own_row O123).below B137).cell (bs_get hb149)) Try.underlying5 rfl) ?_
        refine EL_val (.int .i64 x147) w125 rfl (r_move rfl) ?_
        refine EL_val (.int .u8 (x147 % 256)) w125 rfl (r_convb 3 5 rfl Try.underlying3 Try.underlying5) ?_
        have xa := num_get (b := t ++ [1]) (by simp; omega) hb145
        have xs := num_get (b := s) (by omega) hb140
        obtain ⟨s1, s2⟩ := sec_step hcv xa xs
        have xt := tgn_get hb149
        refine EL_val (.bool false) w125 rfl (r_dec (show (decide ((b148.toNat : Int) ≠ (x147 % 256))) = false from by simp; omega) (r_neq rfl rfl)) ?_
        refine EL_nil ?_
        refine thn_n ?_
        refine EC_cond_false rfl ?_
        refine EC_skip ?_
        refine thn_n ?_
        refine EC_reg ?_
        refine EL_val (.int .i64 x147) w125 rfl (r_move rfl) ?_
        refine EL_int (x147 / 256) rfl (r_shri (n := 8) rfl rfl rfl (by decide) (by decide)) ?_
        intro x151 hx151
        refine EL_val (.int .i64 x151) w125 rfl (r_assign rfl) ?_
        refine EL_nil ?_
        refine inB_n ?_
        refine thn_n ?_
        refine EC_reg ?_
        refine EL_int (i + 1) rfl (r_addi (by exact e126) rfl (by omega)) ?_
        intro x152 hx152
        refine EL_val (.int .i64 x152) w125 rfl (r_move rfl) ?_
        refine EL_nil ?_
        refine thn_n ?_
        refine ⟨_, ?_, x152, x151, rfl, rfl, rfl, (by exact e128), (by exact e129), (by exact e130), by omega, by omega, by rw [show (x152 : Int).toNat = i.toNat + 1 from by omega, ← s2]; omega, B131, B132, B133, B134, B135, B136, B137⟩
        first | omega | (simp; omega)
      · refine EC_skip ?_
        refine thn_n ?_
        refine EC_seq ?_
        refine EC_seq ?_
        refine EC_reg ?_
        refine EL_val p62 w125 rfl (r_move (by exact e129)) ?_
        refine EL_val (.int .i64 i) w125 rfl (r_move rfl) ?_
        refine EL_val (.pointer (some (at_ p62 ((i : Int).toNat)))) w125 rfl (r_index rfl ((own_row O123).below B137) rfl (by omega) (by first | omega | (simp; omega) | simp) Try.underlying22 (by kernel_rfl)) ?_
        obtain ⟨b153, hb154⟩ := get_some (l := tgn (num (t ++ [1]) + num s) 16) (j := (i : Int).toNat) (by omega)
        have hb155 := b153.toNat_lt
        refine EL_val (.int .u8 (b153.toNat : Int)) w125 rfl (r_load rfl (((own_row O123).below B137).cell (bs_get hb154)) Try.underlying5 rfl) ?_
        refine EL_val (.int .i64 x142) w125 rfl (r_move rfl) ?_
        refine EL_val (.int .u8 (x142 % 256)) w125 rfl (r_convb 3 5 rfl Try.underlying3 Try.underlying5) ?_
        have xa := num_noget (b := t ++ [1]) (i := i.toNat) (by simp; omega) (by omega)
        have xs := num_get (b := s) (by omega) hb140
        obtain ⟨s1, s2⟩ := sec_step hcv xa xs
        have xt := tgn_get hb154
        refine EL_val (.bool false) w125 rfl (r_dec (show (decide ((b153.toNat : Int) ≠ (x142 % 256))) = false from by simp; omega) (r_neq rfl rfl)) ?_
        refine EL_nil ?_
        refine thn_n ?_
        refine EC_cond_false rfl ?_
        refine EC_skip ?_
        refine thn_n ?_
        refine EC_reg ?_
        refine EL_val (.int .i64 x142) w125 rfl (r_move rfl) ?_
        refine EL_int (x142 / 256) rfl (r_shri (n := 8) rfl rfl rfl (by decide) (by decide)) ?_
        intro x156 hx156
        refine EL_val (.int .i64 x156) w125 rfl (r_assign rfl) ?_
        refine EL_nil ?_
        refine inB_n ?_
        refine thn_n ?_
        refine EC_reg ?_
        refine EL_int (i + 1) rfl (r_addi (by exact e126) rfl (by omega)) ?_
        intro x157 hx157
        refine EL_val (.int .i64 x157) w125 rfl (r_move rfl) ?_
        refine EL_nil ?_
        refine thn_n ?_
        refine ⟨_, ?_, x157, x156, rfl, rfl, rfl, (by exact e128), (by exact e129), (by exact e130), by omega, by omega, by rw [show (x157 : Int).toNat = i.toNat + 1 from by omega, ← s2]; omega, B131, B132, B133, B134, B135, B136, B137⟩
        first | omega | (simp; omega)
    · refine EC_exit ?_
      refine thn_x ?_
      refine thn_x ?_
      refine inB_hit ?_
      refine thn_n ?_
      refine EC_seq ?_
      refine EC_reg ?_
      refine EL_val (.bool true) w125 rfl (r_assign rfl) ?_
      refine EL_nil ?_
      refine thn_n ?_
      refine EC_ret ?_
      refine fin1 Try.results8 (show _ = .bool true from rfl) ⟨_, rfl, ?_⟩
      exact ⟨rfl, B131⟩
theorem own : ownKnob Try.prog.godebug = none := by kernel_rfl
theorem laidOut : laidOutB Try.prog = true := by kernel_rfl
set_option maxRecDepth 100000 in
theorem lifted (os : Os) (started : os.Started) (H : Type) (enc : TypeId × Value → H) :
    ReturnsInHanded {} Try.checked os 8 .any (Rows.polyOneSpec.pre6 enc Try.prog Try.f8 Rows.polyOneRow.domain false) (Rows.polyOneSpec.post enc Try.prog Try.f8 false true false false) := by
  refine returnsInHanded_of_change (C := Try.checked) own started (by kernel_rfl) Try.func8
    (ChangeSpec.witness6 (enc := enc) (C := Try.checked) false ⟨#[], #[.agg #[.int .u8 0, .int .u8 0, .int .u8 0, .int .u8 0, .int .u8 0, .int .u8 0, .int .u8 0, .int .u8 0, .int .u8 0, .int .u8 0, .int .u8 0, .int .u8 0, .int .u8 0, .int .u8 0, .int .u8 0, .int .u8 0], .slice none 0 0], []⟩ 8 (by kernel_rfl) (by kernel_rfl) (by kernel_rfl) (by kernel_rfl)) ?_
  intro W base args ds gs before hval0 hW hcnd _
  have hval : ∀ (j : Nat) t v, Try.f8.params[j]? = some t → args[j]? = some v → Value.okWide Try.prog W .any base t v := hval0
  have hW' := hW
  obtain ⟨p, q, hA0, hV, rfl, hfz, hnd⟩ := hW
  have hA : DataW.TrodAll enc Try.prog W 0 (fun _ => true) true Try.f8.params.toList args.toList ds p := hA0
  rw [Try.params8] at hA hval
  obtain ⟨v0, vs0, d0, ds0, p0, q0, hargs, rfl, rfl, h0, r0⟩ := trodAll_cons hA
  obtain ⟨v1, vs1, d1, ds1, p1, q1, rfl, rfl, rfl, h1, r1⟩ := trodAll_cons r0
  obtain ⟨rfl, rfl, rfl⟩ := trodAll_nil r1
  obtain rfl : args = #[v0, v1] := by cases args; simp_all
  obtain ⟨rfl, rfl⟩ := trodVars_none hV
  have k0 := h0
  have lt0 : ∀ x ∈ p0, x.block < W.heap.size := by obtain ⟨m, hm⟩ := k0; exact DataW.trod_lt m _ _ _ hm
  obtain ⟨l0, hl0, rfl⟩ := arr_open (n := 16) Try.underlying30 Try.underlying5 (by kernel_rfl) (by kernel_rfl) (hval 0 30 v0 rfl rfl) h0
  have k1 := h1
  have lt1 : ∀ x ∈ p1, x.block < W.heap.size := by obtain ⟨m, hm⟩ := k1; exact DataW.trod_lt m _ _ _ hm
  obtain ⟨a1, len1, cap1, rfl⟩ := okWide_slice Try.underlying22 (hval 1 22 v1 rfl rfl)
  obtain ⟨b1, H1⟩ : ∃ l, Bs W (.slice a1 len1 cap1) l := by
    obtain ⟨fuel, hf⟩ := h1
    rcases open_ints Try.underlying22 Try.underlying5 (by kernel_rfl) hf with ⟨hcs, _⟩ | ⟨x, l, c, zs, hcs, _, hl, hm, hz, _, hcell, hwz⟩
    · simp [Value.cells] at hcs
      obtain ⟨rfl, rfl, rfl⟩ := hcs
      exact ⟨[], Row.nil W⟩
    · simp [Value.cells] at hcs
      obtain ⟨rfl, rfl, rfl⟩ := hcs
      exact bs_open hl hm (by simpa using hz) hcell hwz
  clear hA0 hval0
  refine Calls.mono (PolyOne_c l0 (.slice a1 len1 cap1) b1 W hl0 H1) fun e W' ⟨v', he, hv, bel⟩ => ?_
  subst he
  subst hv
  exact ⟨_, rfl, _, _, _, [], _, [], hW', trodAll_mk1 (shut_bool Try.underlying4 _), (trodAll_cons_mk (Below.trod laidOut (by kernel_rfl) (of_decide_eq_true (by kernel_rfl)) k0 bel lt0) (trodAll_cons_mk (Below.trod laidOut (by kernel_rfl) (of_decide_eq_true (by kernel_rfl)) k1 bel lt1) trodAll_mk0)), rfl, bel.frame _, fun h => by cases h⟩
theorem over : Rows.polyOneRow.holds Try.pinned (OpenSpec.ofChange Rows.polyOneSpec) :=
  OpenClaim.holds_of_wide 8 Try.f8 rfl rfl rfl rfl rfl rfl rfl ⟨rfl, rfl, rfl, rfl, rfl⟩ rfl rfl rfl rfl rfl (by kernel_rfl) Try.func8 (by kernel_rfl)
    (of_decide_eq_true (by kernel_rfl)) (by unfold Func.isWrapper; first | (rw [if_pos (by decide +kernel)]; kernel_rfl) | (rw [if_neg (by decide +kernel)]; exact ⟨rfl, rfl⟩))
    (fun os started H enc _ => lifted os started H enc)
end Go.Proofs.Ytofclhmajgicdaa.polyOne
namespace Go.Proofs.Ytofclhmajgicdaa
theorem PolyOne_holds : Rows.PolyOneSaid := polyOne.over
end Go.Proofs.Ytofclhmajgicdaa
