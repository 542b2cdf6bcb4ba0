/-
  Texts of the greatest and least bytes, of each length about the parts' ends, under keys of such bytes, have the document's tag.
  Its conditions: none: whatever the input, in whatever memory.
-/
import Derived.Test.YtofclhmajgicdaaRows
import Derived.Test.YtofclhmajgicdaaWalksJ
import Derived.ProofKit
import Derived.OpenShut
import Derived.ShutString
import Derived.ChangeOld
set_option linter.unusedVariables false
set_option linter.unusedSimpArgs false
namespace Go.Proofs.Ytofclhmajgicdaa.polyEdges
open Go.ChangeShapes Go.WideShapes Go.ChangeAt Go.RowKit Go.Ecal
open Go.ChangeMaps (open_string shut_string)
theorem ne_of_k {w : World} {base n : Nat} {e : TypeId} {u v : Value} {xs : List Value} (h : w.ownsRow base e 1 u n xs) (hk : v.ownBlock = some w.heap.size) : v.ownBlock ≠ u.ownBlock := fun he =>
  Nat.lt_irrefl _ (own_lt h _ (he.symm.trans hk))
set_option maxRecDepth 100000 in
set_option maxHeartbeats 4000000 in
theorem PolyEdges_c (n : Int) (c r s : UInt8) (w : World) (hn : -9223372036854775808 ≤ n ∧ n ≤ 9223372036854775807) : Ret Try.prog 4 [.int .i64 n, .int .u8 (c.toNat : Int), .int .u8 (r.toNat : Int), .int .u8 (s.toNat : Int)] w fun v w' => v = .bool true ∧ Below w.heap.size w w' := by
  refine ret_E Try.func4 rfl Try.ntmps4 (by simp) ?_
  refine EC_seq ?_
  refine EC_reg ?_
  refine EL_val (.bool false) w rfl (r_assign rfl) ?_
  refine EL_nil ?_
  refine thn_n ?_
  refine EC_seq ?_
  refine EC_seq ?_
  refine EC_reg ?_
  refine EL_ret [] rfl Try.func9 rfl nm9 rfl (anchor_c w) ?_
  rintro _ w11 ⟨rfl, B12⟩
  have B13 : Below w.heap.size w w11 := B12
  refine EL_val (.bool false) w11 rfl (r_dec (show (!true) = false from rfl) (r_not rfl)) ?_
  refine EL_nil ?_
  refine thn_n ?_
  refine EC_cond_false rfl ?_
  refine EC_skip ?_
  refine thn_n ?_
  refine EC_seq ?_
  refine EC_seq ?_
  refine EC_reg ?_
  refine EL_val (.int .i64 n) w11 rfl (r_move rfl) ?_
  refine EL_val (.bool (decide (n < 0))) w11 rfl (r_lss rfl rfl) ?_
  refine EL_val (.bool (decide (n < 0))) w11 rfl (r_move rfl) ?_
  refine EL_gite 19 rfl rfl rfl (.int .i64 n) rfl (fun g14 => r_move rfl) ?_
  refine EL_gite 19 rfl rfl rfl (.bool (decide (100 < n))) rfl (fun g15 => r_gtr (cond_of g15 rfl) rfl) ?_
  refine EL_val (.bool ((decide (n < 0)) || (decide (100 < n)))) w11 rfl (r_or rfl rfl rfl) ?_
  refine EL_nil ?_
  refine thn_n ?_
  refine EC_cond (t := (decide (n < 0)) || (decide (100 < n))) rfl (fun h16 => ?_) (fun h16 => ?_)
  · simp at h16
    refine EC_seq ?_
    refine EC_reg ?_
    refine EL_val (.bool true) w11 rfl (r_assign rfl) ?_
    refine EL_nil ?_
    refine thn_n ?_
    refine EC_ret ?_
    refine thn_r ?_
    refine fin1 Try.results4 (show _ = .bool true from rfl) ⟨_, rfl, ?_⟩
    exact ⟨rfl, B13⟩
  · simp at h16
    refine EC_skip ?_
    refine thn_n ?_
    refine EC_cut (fun E' w' => ∃ kv : Value, ∃ tv : Value, E' 9 = kv ∧ E' 10 = tv ∧ E' 1 = .int .u8 (c.toNat : Int) ∧ E' 2 = .int .u8 (r.toNat : Int) ∧ E' 3 = .int .u8 (s.toNat : Int) ∧ E' 8 = .bool false ∧ (kv.ownBlock ≠ tv.ownBlock) ∧ Below w.heap.size w w' ∧ Below w11.heap.size w11 w' ∧ w'.ownsRow w11.heap.size 5 1 kv (List.replicate 32 (0 : UInt8)).length ((List.replicate 32 (0 : UInt8)).map byt) ∧ w'.ownsRow w11.heap.size 5 1 tv (List.replicate n.toNat (0 : UInt8)).length ((List.replicate n.toNat (0 : UInt8)).map byt)) ?_ ?_
    · refine EC_held (fun w' => Below w11.heap.size w11 w') (by kernel_rfl) ?_
      intro w17 B18 z19
      have B20 : Below w.heap.size w w17 := below_full B13 B13.size B18
      have B21 : Below w11.heap.size w11 w17 := B18
      refine EA_strong (fun w' => Below w17.heap.size w17 w') (fun _ hw => below_full B21 B21.size hw) ?_
      refine EA_take 1 rfl (by kernel_rfl) (by kernel_rfl) (by kernel_rfl) (.int .i64 n) rfl (fun _ hw => r_move rfl) (Below.refl _ _) ?_
      refine EA_two 0 2 (by kernel_rfl) ⟨_, rfl, ?_⟩ ⟨_, rfl, ?_⟩
      · refine EL_make w17.heap.size elB rfl rfl rfl rfl (by omega) (by omega) (by omega) (by omega) (Nat.le_refl _) ?_
        intro v22 w23 O24 B25 k26 z27
        have B28 : Below w.heap.size w w23 := below_full B20 B20.size B25
        have B29 : Below w11.heap.size w11 w23 := below_full B21 B21.size B25
        have B30 : Below w17.heap.size w17 w23 := B25
        have O31 := own_rep O24
        refine EL_nil ?_
        refine ⟨rfl, B30, ?_⟩
        refine EA_strong (fun w' => Below w23.heap.size w23 w') (fun _ hw => below_full B30 B30.size hw) ?_
        refine EA_take 3 rfl (by kernel_rfl) (by kernel_rfl) (by kernel_rfl) v22 rfl (fun _ hw => r_assign rfl) (Below.refl _ _) ?_
        refine EA_one 2 rfl (by kernel_rfl) ?_
        refine EL_make w23.heap.size elB rfl rfl rfl rfl (by omega) (by omega) (by omega) (by omega) (Nat.le_refl _) ?_
        intro v32 w33 O34 B35 k36 z37
        have B38 : Below w.heap.size w w33 := below_full B28 B28.size B35
        have B39 : Below w11.heap.size w11 w33 := below_full B29 B29.size B35
        have B40 : Below w17.heap.size w17 w33 := below_full B30 B30.size B35
        have B41 : Below w23.heap.size w23 w33 := B35
        have O42 := own_rep O34
        refine EL_nil ?_
        refine ⟨rfl, B41, ?_⟩
        refine EA_strong (fun w' => Below w33.heap.size w33 w') (fun _ hw => below_full B41 B41.size hw) ?_
        refine EA_take 4 rfl (by kernel_rfl) (by kernel_rfl) (by kernel_rfl) v32 rfl (fun _ hw => r_assign rfl) (Below.refl _ _) ?_
        refine EA_done (by kernel_rfl) ?_
        refine thn_n ?_
        exact ⟨v22, v32, rfl, rfl, rfl, rfl, rfl, rfl, ((ne_of_k O31 k36).symm), B38, B39, (own_mono (own_below O31 B41) B21.size), (own_mono O42 B29.size)⟩
      · refine EL_make w17.heap.size elB rfl rfl rfl rfl (by omega) (by omega) (by omega) (by omega) (Nat.le_refl _) ?_
        intro v43 w44 O45 B46 k47 z48
        have B49 : Below w.heap.size w w44 := below_full B20 B20.size B46
        have B50 : Below w11.heap.size w11 w44 := below_full B21 B21.size B46
        have B51 : Below w17.heap.size w17 w44 := B46
        have O52 := own_rep O45
        refine EL_nil ?_
        refine ⟨rfl, B51, ?_⟩
        refine EA_strong (fun w' => Below w44.heap.size w44 w') (fun _ hw => below_full B51 B51.size hw) ?_
        refine EA_one 0 rfl (by kernel_rfl) ?_
        refine EL_make w44.heap.size elB rfl rfl rfl rfl (by omega) (by omega) (by omega) (by omega) (Nat.le_refl _) ?_
        intro v53 w54 O55 B56 k57 z58
        have B59 : Below w.heap.size w w54 := below_full B49 B49.size B56
        have B60 : Below w11.heap.size w11 w54 := below_full B50 B50.size B56
        have B61 : Below w17.heap.size w17 w54 := below_full B51 B51.size B56
        have B62 : Below w44.heap.size w44 w54 := B56
        have O63 := own_rep O55
        refine EL_nil ?_
        refine ⟨rfl, B62, ?_⟩
        refine EA_strong (fun w' => Below w54.heap.size w54 w') (fun _ hw => below_full B62 B62.size hw) ?_
        refine EA_take 3 rfl (by kernel_rfl) (by kernel_rfl) (by kernel_rfl) v53 rfl (fun _ hw => r_assign rfl) (Below.refl _ _) ?_
        refine EA_take 4 rfl (by kernel_rfl) (by kernel_rfl) (by kernel_rfl) v43 rfl (fun _ hw => r_assign rfl) (Below.refl _ _) ?_
        refine EA_done (by kernel_rfl) ?_
        refine thn_n ?_
        exact ⟨v53, v43, rfl, rfl, rfl, rfl, rfl, rfl, (ne_of_k O52 k57), B59, B60, (own_mono O63 B50.size), (own_mono (own_below O52 B62) B21.size)⟩
    · rintro E64 w65 ⟨kv, tv, e66, e67, e68, e69, e70, e71, hne, B72, B73, O74, O75⟩
      refine EC_seq ?_
      refine EC_seq ?_
      refine EC_reg ?_
      refine EL_val (.int .i64 0) w65 rfl (r_move rfl) ?_
      refine EL_nil ?_
      refine thn_n ?_
      refine EC_block ?_
      refine EC_loop (fun m' E' w' => ∃ i : Int, ∃ kl : List UInt8, m' = (16 - i).toNat ∧ E' 26 = .int .i64 i ∧ E' 1 = .int .u8 (c.toNat : Int) ∧ E' 2 = .int .u8 (r.toNat : Int) ∧ E' 3 = .int .u8 (s.toNat : Int) ∧ E' 8 = .bool false ∧ E' 9 = kv ∧ E' 10 = tv ∧ (0 ≤ i ∧ i ≤ 16) ∧ (kl.length = 32) ∧ Below w.heap.size w w' ∧ Below w11.heap.size w11 w' ∧ w'.ownsRow w11.heap.size 5 1 kv (kl).length ((kl).map byt) ∧ w'.ownsRow w11.heap.size 5 1 tv (List.replicate n.toNat (0 : UInt8)).length ((List.replicate n.toNat (0 : UInt8)).map byt)) _ ⟨0, List.replicate 32 (0 : UInt8), rfl, rfl, (by exact e68), (by exact e69), (by exact e70), (by exact e71), (by exact e66), (by exact e67), by omega, by simp, B72, B73, O74, O75⟩ ?_
      rintro _ E76 w77 ⟨i, kl, rfl, e78, e79, e80, e81, e82, e83, e84, hi, hkl, B85, B86, O87, O88⟩
      refine EC_seq ?_
      refine EC_reg ?_
      refine EL_val (.bool (decide (i < 16))) w77 rfl (r_lss (by exact e78) rfl) ?_
      refine EL_nil ?_
      refine thn_n ?_
      refine EC_seq ?_
      refine EC_if (p := i < 16) rfl (fun h89 => ?_) (fun h89 => ?_)
      · refine EC_skip ?_
        refine thn_n ?_
        refine EC_seq ?_
        refine EC_block ?_
        refine EC_seq ?_
        refine EC_reg ?_
        refine EL_val (.int .i64 i) w77 rfl (r_move (by exact e78)) ?_
        refine EL_val (.int .i64 i) w77 rfl (r_assign rfl) ?_
        refine EL_nil ?_
        refine thn_n ?_
        refine EC_reg ?_
        refine EL_val kv w77 rfl (r_move (by exact e83)) ?_
        refine EL_val (.int .i64 i) w77 rfl (r_move rfl) ?_
        refine EL_val kv w77 rfl (r_move (by exact e83)) ?_
        refine EL_val (.int .i64 i) w77 rfl (r_move rfl) ?_
        refine EL_int (16 + i) rfl (r_addi rfl rfl (by omega)) ?_
        intro x90 hx90
        refine EL_val (.int .u8 (r.toNat : Int)) w77 rfl (r_move (by exact e80)) ?_
        refine EL_val (.int .u8 (s.toNat : Int)) w77 rfl (r_move (by exact e81)) ?_
        refine EL_val (.pointer (some (at_ kv ((i : Int).toNat)))) w77 rfl (r_index rfl (own_row O87) rfl (by omega) (by first | omega | (simp; omega) | simp) Try.underlying22 (by kernel_rfl)) ?_
        refine EL_store (u := byt r) rfl rfl O87 (by first | omega | (simp; omega)) rfl (by kernel_rfl) ?_
        intro w91 O92 G93 z94
        have O92' := own_set O92
        have B95 : Below w.heap.size w w91 := below_grew B85 G93 O87 B13.size (B85.size)
        have B96 : Below w11.heap.size w11 w91 := below_grew B86 G93 O87 (Nat.le_refl _) (B86.size)
        have F97 := own_ne O88 G93 hne.symm
        refine EL_val (.pointer (some (at_ kv ((x90 : Int).toNat)))) w91 rfl (r_index rfl (own_row O92') rfl (by omega) (by first | omega | (simp; omega) | simp) Try.underlying22 (by kernel_rfl)) ?_
        refine EL_store (u := byt s) rfl rfl O92' (by first | omega | (simp; omega)) rfl (by kernel_rfl) ?_
        intro w98 O99 G100 z101
        have O99' := own_set O99
        have B102 : Below w.heap.size w w98 := below_grew B95 G100 O92' B13.size (B95.size)
        have B103 : Below w11.heap.size w11 w98 := below_grew B96 G100 O92' (Nat.le_refl _) (B96.size)
        have F104 := own_ne F97 G100 hne.symm
        refine EL_nil ?_
        refine inB_n ?_
        refine thn_n ?_
        refine EC_reg ?_
        refine EL_int (i + 1) rfl (r_addi (by exact e78) rfl (by omega)) ?_
        intro x105 hx105
        refine EL_val (.int .i64 x105) w98 rfl (r_move rfl) ?_
        refine EL_nil ?_
        refine thn_n ?_
        refine ⟨_, ?_, x105, (kl.set ((i : Int).toNat) r).set ((x90 : Int).toNat) s, rfl, rfl, (by exact e79), (by exact e80), (by exact e81), (by exact e82), (by exact e83), (by exact e84), by omega, by simp; omega, B102, B103, O99', F104⟩
        first | omega | (simp; omega)
      · refine EC_exit ?_
        refine thn_x ?_
        refine thn_x ?_
        refine inB_hit ?_
        refine thn_n ?_
        refine EC_seq ?_
        refine EC_seq ?_
        refine EC_reg ?_
        refine EL_val tv w77 rfl (r_move (by exact e84)) ?_
        refine EL_val (.int .i64 ((List.replicate n.toNat (0 : UInt8)).length : Int)) w77 rfl (lenB (r_len rfl (own_row O88) Try.underlying22)) ?_
        refine EL_val (.int .i64 0) w77 rfl (r_move rfl) ?_
        refine EL_nil ?_
        refine thn_n ?_
        refine EC_block ?_
        have hrl : (List.replicate n.toNat (0 : UInt8)).length = n.toNat := by simp
        refine EC_loop (fun m' E' w' => ∃ j : Int, ∃ tl : List UInt8, m' = (n - j).toNat ∧ E' 41 = .int .i64 j ∧ E' 1 = .int .u8 (c.toNat : Int) ∧ E' 8 = .bool false ∧ E' 9 = kv ∧ E' 10 = tv ∧ E' 40 = .int .i64 ((List.replicate n.toNat (0 : UInt8)).length : Int) ∧ (0 ≤ j) ∧ (tl.length = n.toNat) ∧ Below w.heap.size w w' ∧ Below w11.heap.size w11 w' ∧ w'.ownsRow w11.heap.size 5 1 kv (kl).length ((kl).map byt) ∧ w'.ownsRow w11.heap.size 5 1 tv (tl).length ((tl).map byt)) _ ⟨0, List.replicate n.toNat (0 : UInt8), rfl, rfl, (by exact e79), (by exact e82), (by exact e83), (by exact e84), rfl, by omega, by simp, B85, B86, O87, O88⟩ ?_
        rintro _ E106 w107 ⟨j, tl, rfl, e108, e109, e110, e111, e112, e113, hj, htl, B114, B115, O116, O117⟩
        refine EC_seq ?_
        refine EC_reg ?_
        refine EL_val (.bool (decide (j < ((List.replicate n.toNat (0 : UInt8)).length : Int)))) w107 rfl (r_lss (by exact e108) (by exact e113)) ?_
        refine EL_nil ?_
        refine thn_n ?_
        refine EC_seq ?_
        refine EC_if (p := j < ((List.replicate n.toNat (0 : UInt8)).length : Int)) rfl (fun h118 => ?_) (fun h118 => ?_)
        · refine EC_skip ?_
          refine thn_n ?_
          refine EC_seq ?_
          refine EC_block ?_
          refine EC_seq ?_
          refine EC_reg ?_
          refine EL_val (.int .i64 j) w107 rfl (r_move (by exact e108)) ?_
          refine EL_val (.int .i64 j) w107 rfl (r_assign rfl) ?_
          refine EL_nil ?_
          refine thn_n ?_
          refine EC_reg ?_
          refine EL_val tv w107 rfl (r_move (by exact e112)) ?_
          refine EL_val (.int .i64 j) w107 rfl (r_move rfl) ?_
          refine EL_val (.int .u8 (c.toNat : Int)) w107 rfl (r_move (by exact e109)) ?_
          refine EL_val (.pointer (some (at_ tv ((j : Int).toNat)))) w107 rfl (r_index rfl (own_row O117) rfl (by omega) (by first | omega | (simp; omega) | simp) Try.underlying22 (by kernel_rfl)) ?_
          refine EL_store (u := byt c) rfl rfl O117 (by first | omega | (simp; omega)) rfl (by kernel_rfl) ?_
          intro w119 O120 G121 z122
          have O120' := own_set O120
          have B123 : Below w.heap.size w w119 := below_grew B114 G121 O117 B13.size (B114.size)
          have B124 : Below w11.heap.size w11 w119 := below_grew B115 G121 O117 (Nat.le_refl _) (B115.size)
          have F125 := own_ne O116 G121 hne
          refine EL_nil ?_
          refine inB_n ?_
          refine thn_n ?_
          refine EC_reg ?_
          refine EL_int (j + 1) rfl (r_addi (by exact e108) rfl (by omega)) ?_
          intro x126 hx126
          refine EL_val (.int .i64 x126) w119 rfl (r_move rfl) ?_
          refine EL_nil ?_
          refine thn_n ?_
          refine ⟨_, ?_, x126, tl.set ((j : Int).toNat) c, rfl, rfl, (by exact e109), (by exact e110), (by exact e111), (by exact e112), (by exact e113), by omega, by simp; omega, B123, B124, F125, O120'⟩
          first | omega | (simp; omega)
        · refine EC_exit ?_
          refine thn_x ?_
          refine thn_x ?_
          refine inB_hit ?_
          refine thn_n ?_
          refine EC_seq ?_
          refine EC_reg ?_
          refine EL_val kv w107 rfl (r_move (by exact e111)) ?_
          refine EL_val tv w107 rfl (r_move (by exact e112)) ?_
          have L130 := tag_len kl tl
          refine EL_ret [kv, tv] rfl Try.func10 rfl nm10 rfl (Tag_ok kv kl tv tl w107 (own_row O116) (own_row O117) (by first | omega | (simp; done) | (simp; omega))) ?_
          rintro _ w131 ⟨p127, rfl, O128, B129⟩
          have B132 : Below w.heap.size w w131 := below_full B114 B114.size B129
          have B133 : Below w11.heap.size w11 w131 := below_full B115 B115.size B129
          have B134 : Below w107.heap.size w107 w131 := B129
          refine EL_val (.tuple #[p127, .int .i64 0]) w131 rfl (r_move rfl) ?_
          refine EL_val p127 w131 rfl (r_extract rfl rfl) ?_
          refine EL_val (.int .i64 0) w131 rfl (r_extract rfl rfl) ?_
          refine EL_val p127 w131 rfl (r_assign rfl) ?_
          refine EL_val (.int .i64 0) w131 rfl (r_assign rfl) ?_
          refine EL_nil ?_
          refine thn_n ?_
          refine EC_seq ?_
          refine EC_held (fun w' => Below w131.heap.size w131 w') (by kernel_rfl) ?_
          intro w135 B136 z137
          have B138 : Below w.heap.size w w135 := below_full B132 B132.size B136
          have B139 : Below w11.heap.size w11 w135 := below_full B133 B133.size B136
          have B140 : Below w107.heap.size w107 w135 := below_full B134 B134.size B136
          have B141 : Below w131.heap.size w131 w135 := B136
          refine EA_strong (fun w' => Below w135.heap.size w135 w') (fun _ hw => below_full B141 B141.size hw) ?_
          refine EA_take 0 rfl (by kernel_rfl) (by kernel_rfl) (by kernel_rfl) (.int .i64 0) rfl (fun _ hw => r_move rfl) (Below.refl _ _) ?_
          refine EA_take 1 rfl (by kernel_rfl) (by kernel_rfl) (by kernel_rfl) (.bool true) rfl (fun _ hw => r_dec (by decide) (r_eql rfl rfl)) (Below.refl _ _) ?_
          refine EA_take 2 rfl (by kernel_rfl) (by kernel_rfl) (by kernel_rfl) (.bool true) rfl (fun _ hw => r_move rfl) (Below.refl _ _) ?_
          refine EA_gtake 3 rfl (by kernel_rfl) (by kernel_rfl) (by kernel_rfl) 57 rfl rfl rfl rfl p127 rfl (fun _ hw => r_move rfl) (Below.refl _ _) ?_
          refine EA_gtake 4 rfl (by kernel_rfl) (by kernel_rfl) (by kernel_rfl) 57 rfl rfl rfl rfl (.string (str (tag kl tl))) rfl (fun _ hw => r_str rfl (((own_row O128).below B141).below hw) Try.underlying22 Try.underlying5 Try.underlying9) (Below.refl _ _) ?_
          refine EA_gtake 5 rfl (by kernel_rfl) (by kernel_rfl) (by kernel_rfl) 57 rfl rfl rfl rfl kv rfl (fun _ hw => r_move (by exact e111)) (Below.refl _ _) ?_
          refine EA_gtake 6 rfl (by kernel_rfl) (by kernel_rfl) (by kernel_rfl) 57 rfl rfl rfl rfl tv rfl (fun _ hw => r_move (by exact e112)) (Below.refl _ _) ?_
          refine EA_call 7 rfl (by kernel_rfl) [kv, tv] (.inr ⟨_, _, 57, rfl, rfl, rfl, rfl⟩) rfl Try.func11 rfl nm11 rfl (rTag_c kv kl tv tl w135 ((own_row O116).below B140) ((own_row O117).below B140) (by first | omega | (simp; done) | (simp; omega)) (by first | omega | (simp; omega))) ?_
          rintro p142 w145 ⟨O143, B144⟩
          have B146 : Below w.heap.size w w145 := below_full B138 B138.size B144
          have B147 : Below w11.heap.size w11 w145 := below_full B139 B139.size B144
          have B148 : Below w107.heap.size w107 w145 := below_full B140 B140.size B144
          have B149 : Below w131.heap.size w131 w145 := below_full B141 B141.size B144
          have B150 : Below w135.heap.size w135 w145 := B144
          refine ⟨B150, ?_⟩
          refine EA_strong (fun w' => Below w145.heap.size w145 w') (fun _ hw => below_full B150 B150.size hw) ?_
          refine EA_gtake 8 rfl (by kernel_rfl) (by kernel_rfl) (by kernel_rfl) 57 rfl rfl rfl rfl (.string (str (tag kl tl))) rfl (fun _ hw => r_str rfl ((own_row O143).below hw) Try.underlying22 Try.underlying5 Try.underlying9) (Below.refl _ _) ?_
          refine EA_gtake 9 rfl (by kernel_rfl) (by kernel_rfl) (by kernel_rfl) 57 rfl rfl rfl rfl (.bool true) rfl (fun _ hw => r_dec (show (decide ((tag kl tl) = (tag kl tl))) = true from by simp) (r_eqls rfl rfl)) (Below.refl _ _) ?_
          refine EA_take 10 rfl (by kernel_rfl) (by kernel_rfl) (by kernel_rfl) (.bool true) rfl (fun _ hw => r_pickT rfl rfl) (Below.refl _ _) ?_
          refine EA_take 11 rfl (by kernel_rfl) (by kernel_rfl) (by kernel_rfl) (.bool true) rfl (fun _ hw => r_assign rfl) (Below.refl _ _) ?_
          refine EA_done (by kernel_rfl) ?_
          refine thn_n ?_
          refine EC_ret ?_
          refine fin1 Try.results4 (show _ = .bool true from rfl) ⟨_, rfl, ?_⟩
          exact ⟨rfl, B146⟩
theorem own : ownKnob Try.prog.godebug = none := by kernel_rfl
theorem laidOut : laidOutB Try.prog = true := by kernel_rfl
set_option maxRecDepth 100000 in
theorem lifted (os : Os) (started : os.Started) (H : Type) (enc : TypeId × Value → H) :
    ReturnsInHanded {} Try.checked os 4 .any (Rows.polyEdgesSpec.pre6 enc Try.prog Try.f4 Rows.polyEdgesRow.domain false) (Rows.polyEdgesSpec.post enc Try.prog Try.f4 false true false false) := by
  refine returnsInHanded_of_change (C := Try.checked) own started (by kernel_rfl) Try.func4
    (ChangeSpec.witness6 (enc := enc) (C := Try.checked) false ⟨#[], #[.int .i64 0, .int .u8 0, .int .u8 0, .int .u8 0], []⟩ 8 (by kernel_rfl) (by kernel_rfl) (by kernel_rfl) (by kernel_rfl)) ?_
  intro W base args ds gs before hval0 hW hcnd _
  have hval : ∀ (j : Nat) t v, Try.f4.params[j]? = some t → args[j]? = some v → Value.okWide Try.prog W .any base t v := hval0
  have hW' := hW
  obtain ⟨p, q, hA0, hV, rfl, hfz, hnd⟩ := hW
  have hA : DataW.TrodAll enc Try.prog W 0 (fun _ => true) true Try.f4.params.toList args.toList ds p := hA0
  rw [Try.params4] at hA hval
  obtain ⟨v0, vs0, d0, ds0, p0, q0, hargs, rfl, rfl, h0, r0⟩ := trodAll_cons hA
  obtain ⟨v1, vs1, d1, ds1, p1, q1, rfl, rfl, rfl, h1, r1⟩ := trodAll_cons r0
  obtain ⟨v2, vs2, d2, ds2, p2, q2, rfl, rfl, rfl, h2, r2⟩ := trodAll_cons r1
  obtain ⟨v3, vs3, d3, ds3, p3, q3, rfl, rfl, rfl, h3, r3⟩ := trodAll_cons r2
  obtain ⟨rfl, rfl, rfl⟩ := trodAll_nil r3
  obtain rfl : args = #[v0, v1, v2, v3] := by cases args; simp_all
  obtain ⟨rfl, rfl⟩ := trodVars_none hV
  have k0 := h0
  have lt0 : ∀ x ∈ p0, x.block < W.heap.size := by obtain ⟨m, hm⟩ := k0; exact DataW.trod_lt m _ _ _ hm
  obtain ⟨a0, rfl, rfl, rfl, w0⟩ := open_int Try.underlying3 (hval 0 3 v0 rfl rfl) h0
  have k1 := h1
  have lt1 : ∀ x ∈ p1, x.block < W.heap.size := by obtain ⟨m, hm⟩ := k1; exact DataW.trod_lt m _ _ _ hm
  obtain ⟨a1, rfl, rfl, rfl, w1⟩ := open_int Try.underlying5 (hval 1 5 v1 rfl rfl) h1
  obtain ⟨y1, rfl⟩ := u8_of w1
  have k2 := h2
  have lt2 : ∀ x ∈ p2, x.block < W.heap.size := by obtain ⟨m, hm⟩ := k2; exact DataW.trod_lt m _ _ _ hm
  obtain ⟨a2, rfl, rfl, rfl, w2⟩ := open_int Try.underlying5 (hval 2 5 v2 rfl rfl) h2
  obtain ⟨y2, rfl⟩ := u8_of w2
  have k3 := h3
  have lt3 : ∀ x ∈ p3, x.block < W.heap.size := by obtain ⟨m, hm⟩ := k3; exact DataW.trod_lt m _ _ _ hm
  obtain ⟨a3, rfl, rfl, rfl, w3⟩ := open_int Try.underlying5 (hval 3 5 v3 rfl rfl) h3
  obtain ⟨y3, rfl⟩ := u8_of w3
  clear hA0 hval0
  refine Calls.mono (PolyEdges_c a0 y1 y2 y3 W (rng_i64 w0)) fun e W' ⟨v', he, hv, bel⟩ => ?_
  subst he
  subst hv
  exact ⟨_, rfl, _, _, _, [], _, [], hW', trodAll_mk1 (shut_bool Try.underlying4 _), (trodAll_cons_mk (Below.trod laidOut (by kernel_rfl) (of_decide_eq_true (by kernel_rfl)) k0 bel lt0) (trodAll_cons_mk (Below.trod laidOut (by kernel_rfl) (of_decide_eq_true (by kernel_rfl)) k1 bel lt1) (trodAll_cons_mk (Below.trod laidOut (by kernel_rfl) (of_decide_eq_true (by kernel_rfl)) k2 bel lt2) (trodAll_cons_mk (Below.trod laidOut (by kernel_rfl) (of_decide_eq_true (by kernel_rfl)) k3 bel lt3) trodAll_mk0)))), rfl, bel.frame _, fun h => by cases h⟩
theorem over : Rows.polyEdgesRow.holds Try.pinned (OpenSpec.ofChange Rows.polyEdgesSpec) :=
  OpenClaim.holds_of_wide 4 Try.f4 rfl rfl rfl rfl rfl rfl rfl ⟨rfl, rfl, rfl, rfl, rfl⟩ rfl rfl rfl rfl rfl (by kernel_rfl) Try.func4 (by kernel_rfl)
    (of_decide_eq_true (by kernel_rfl)) (by unfold Func.isWrapper; first | (rw [if_pos (by decide +kernel)]; kernel_rfl) | (rw [if_neg (by decide +kernel)]; exact ⟨rfl, rfl⟩))
    (fun os started H enc _ => lifted os started H enc)
end Go.Proofs.Ytofclhmajgicdaa.polyEdges
namespace Go.Proofs.Ytofclhmajgicdaa
theorem PolyEdges_holds : Rows.PolyEdgesSaid := polyEdges.over
end Go.Proofs.Ytofclhmajgicdaa
