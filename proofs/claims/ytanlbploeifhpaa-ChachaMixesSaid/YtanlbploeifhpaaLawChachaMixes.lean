/-
  Two texts of one length are as far apart, byte by byte, as what they are xored to.
  Its conditions: none: whatever the input, in whatever memory.
-/
import Derived.Test.YtanlbploeifhpaaRows
import Derived.Test.YtanlbploeifhpaaWalksE
import Derived.ProofKit
import Derived.OpenShut
import Derived.ShutString
import Derived.ChangeOld
set_option linter.unusedVariables false
set_option linter.unusedSimpArgs false
namespace Go.Proofs.Ytanlbploeifhpaa.chachaMixes
open Go.ChangeShapes Go.WideShapes Go.ChangeAt Go.RowKit Go.Ecal
open Go.ChangeMaps (open_string shut_string)
set_option maxHeartbeats 2000000 in
theorem ChachaMixes_c (k : List UInt8) (c : Int) (n : List UInt8) (v2 : Value) (a : List UInt8) (v3 : Value) (b : List UInt8) (w : World) (hk : k.length = 32) (hc : -9223372036854775808 ≤ c ∧ c ≤ 9223372036854775807) (hn : n.length = 12) (H2 : Bs w v2 a) (H3 : Bs w v3 b) : Ret Try.prog 8 [.agg (k.map byt).toArray, .int .i64 c, .agg (n.map byt).toArray, v2, v3] w fun v w' => v = .bool true ∧ Below w.heap.size w w' := by
  have hl2 := H2.len_le
  simp only [List.length_map] at hl2
  refine ret_E Try.func8 rfl Try.ntmps8 (by simp) ?_
  refine EC_seq ?_
  refine EC_reg ?_
  refine EL_box (k.map byt) rfl rfl rfl ?_
  intro b11 w12 k13 A14 B15 z16
  have B18 : Below w.heap.size w w12 := B15
  have R17 : Bs w12 (.slice (some ⟨b11, 0, none⟩) 32 32) k := barr_row A14 (by omega) (by decide)
  refine EL_box (n.map byt) rfl rfl rfl ?_
  intro b19 w20 k21 A22 B23 z24
  have B26 : Below w.heap.size w w20 := below_full B18 B18.size B23
  have B27 : Below w12.heap.size w12 w20 := B23
  have R25 : Bs w20 (.slice (some ⟨b19, 0, none⟩) 12 12) n := barr_row A22 (by omega) (by decide)
  refine EL_val (.bool false) w20 rfl (r_assign rfl) ?_
  refine EL_nil ?_
  refine thn_n ?_
  refine EC_seq ?_
  refine EC_seq ?_
  refine EC_reg ?_
  refine EL_ret [] rfl Try.func9 rfl nm9 rfl (anchor_c w20) ?_
  rintro _ w28 ⟨rfl, B29⟩
  have B30 : Below w.heap.size w w28 := below_full B26 B26.size B29
  have B31 : Below w12.heap.size w12 w28 := below_full B27 B27.size B29
  have B32 : Below w20.heap.size w20 w28 := B29
  refine EL_val (.bool false) w28 rfl (r_dec (show (!true) = false from rfl) (r_not rfl)) ?_
  refine EL_nil ?_
  refine thn_n ?_
  refine EC_cond_false rfl ?_
  refine EC_skip ?_
  refine thn_n ?_
  refine EC_seq ?_
  refine EC_seq ?_
  refine EC_reg ?_
  refine EL_val v2 w28 rfl (r_move rfl) ?_
  refine EL_val (.int .i64 (a.length : Int)) w28 rfl (lenB (r_len rfl (H2.below B30) Try.underlying22)) ?_
  refine EL_val (.bool (decide (300 < (a.length : Int)))) w28 rfl (r_gtr rfl rfl) ?_
  refine EL_val (.bool (decide (300 < (a.length : Int)))) w28 rfl (r_move rfl) ?_
  refine EL_gite 21 rfl rfl rfl v2 rfl (fun g33 => r_move rfl) ?_
  refine EL_gite 21 rfl rfl rfl (.int .i64 (a.length : Int)) rfl (fun g34 => lenB (r_len (cond_of g34 rfl) (H2.below B30) Try.underlying22)) ?_
  refine EL_gite 21 rfl rfl rfl v3 rfl (fun g35 => r_move rfl) ?_
  refine EL_gite 21 rfl rfl rfl (.int .i64 (b.length : Int)) rfl (fun g36 => lenB (r_len (cond_of g36 rfl) (H3.below B30) Try.underlying22)) ?_
  refine EL_gite 21 rfl rfl rfl (.bool (decide ((a.length : Int) ≠ (b.length : Int)))) rfl (fun g37 => r_neq (cond_of g37 rfl) (cond_of g37 rfl)) ?_
  refine EL_val (.bool ((decide (300 < (a.length : Int))) || (decide ((a.length : Int) ≠ (b.length : Int))))) w28 rfl (r_or rfl rfl rfl) ?_
  refine EL_val (.bool ((decide (300 < (a.length : Int))) || (decide ((a.length : Int) ≠ (b.length : Int))))) w28 rfl (r_move rfl) ?_
  refine EL_gite 28 rfl rfl rfl (.int .i64 c) rfl (fun g38 => r_move rfl) ?_
  refine EL_gite 28 rfl rfl rfl (.bool (decide (c < 0))) rfl (fun g39 => r_lss (cond_of g39 rfl) rfl) ?_
  refine EL_val (.bool (((decide (300 < (a.length : Int))) || (decide ((a.length : Int) ≠ (b.length : Int)))) || (decide (c < 0)))) w28 rfl (r_or rfl rfl rfl) ?_
  refine EL_val (.bool (((decide (300 < (a.length : Int))) || (decide ((a.length : Int) ≠ (b.length : Int)))) || (decide (c < 0)))) w28 rfl (r_move rfl) ?_
  refine EL_gite 32 rfl rfl rfl (.int .i64 c) rfl (fun g40 => r_move rfl) ?_
  refine EL_gite 32 rfl rfl rfl (.bool (decide (4294967295 < c))) rfl (fun g41 => r_gtr (cond_of g41 rfl) rfl) ?_
  refine EL_val (.bool ((((decide (300 < (a.length : Int))) || (decide ((a.length : Int) ≠ (b.length : Int)))) || (decide (c < 0))) || (decide (4294967295 < c)))) w28 rfl (r_or rfl rfl rfl) ?_
  refine EL_nil ?_
  refine thn_n ?_
  refine EC_cond (t := (((decide (300 < (a.length : Int))) || (decide ((a.length : Int) ≠ (b.length : Int)))) || (decide (c < 0))) || (decide (4294967295 < c))) rfl (fun h42 => ?_) (fun h42 => ?_)
  · simp at h42
    refine EC_seq ?_
    refine EC_reg ?_
    refine EL_val (.bool true) w28 rfl (r_assign rfl) ?_
    refine EL_nil ?_
    refine thn_n ?_
    refine EC_ret ?_
    refine thn_r ?_
    refine fin1 Try.results8 (show _ = .bool true from rfl) ⟨_, rfl, ?_⟩
    exact ⟨rfl, B30⟩
  · simp at h42
    refine EC_skip ?_
    refine thn_n ?_
    refine EC_seq ?_
    refine EC_held (fun w' => Below w28.heap.size w28 w') (by kernel_rfl) ?_
    intro w43 B44 z45
    have B46 : Below w.heap.size w w43 := below_full B30 B30.size B44
    have B47 : Below w12.heap.size w12 w43 := below_full B31 B31.size B44
    have B48 : Below w20.heap.size w20 w43 := below_full B32 B32.size B44
    have B49 : Below w28.heap.size w28 w43 := B44
    refine EA_strong (fun w' => Below w43.heap.size w43 w') (fun _ hw => below_full B49 B49.size hw) ?_
    refine EA_take 0 rfl (by kernel_rfl) (by kernel_rfl) (by kernel_rfl) (.slice (some ⟨b11, 0, none⟩) 32 32) rfl (fun _ hw => r_sliceA rfl Try.underlying32 (by kernel_rfl)) (Below.refl _ _) ?_
    refine EA_take 1 rfl (by kernel_rfl) (by kernel_rfl) (by kernel_rfl) (.int .i64 c) rfl (fun _ hw => r_move rfl) (Below.refl _ _) ?_
    refine EA_take 2 rfl (by kernel_rfl) (by kernel_rfl) (by kernel_rfl) (.slice (some ⟨b19, 0, none⟩) 12 12) rfl (fun _ hw => r_sliceA rfl Try.underlying33 (by kernel_rfl)) (Below.refl _ _) ?_
    refine EA_take 3 rfl (by kernel_rfl) (by kernel_rfl) (by kernel_rfl) v2 rfl (fun _ hw => r_move rfl) (Below.refl _ _) ?_
    have L53 := xo_len k c n a
    refine EA_call 4 rfl (by kernel_rfl) [.slice (some ⟨b11, 0, none⟩) 32 32, .int .i64 c, .slice (some ⟨b19, 0, none⟩) 12 12, v2] (.inl rfl) rfl Try.func12 rfl nm12 rfl (XOR_ok (.slice (some ⟨b11, 0, none⟩) 32 32) k c (.slice (some ⟨b19, 0, none⟩) 12 12) n v2 a w43 (R17.below B47) (R25.below B48) (H2.below B46) (chk_of (by omega) (by omega) (by omega)) (by first | omega | (simp; done) | (simp; omega))) ?_
    rintro _ w54 ⟨p50, rfl, O51, B52⟩
    have B55 : Below w.heap.size w w54 := below_full B46 B46.size B52
    have B56 : Below w12.heap.size w12 w54 := below_full B47 B47.size B52
    have B57 : Below w20.heap.size w20 w54 := below_full B48 B48.size B52
    have B58 : Below w28.heap.size w28 w54 := below_full B49 B49.size B52
    have B59 : Below w43.heap.size w43 w54 := B52
    refine ⟨B59, ?_⟩
    refine EA_strong (fun w' => Below w54.heap.size w54 w') (fun _ hw => below_full B59 B59.size hw) ?_
    refine EA_take 5 rfl (by kernel_rfl) (by kernel_rfl) (by kernel_rfl) (.tuple #[p50, .int .i64 0]) rfl (fun _ hw => r_move rfl) (Below.refl _ _) ?_
    refine EA_take 6 rfl (by kernel_rfl) (by kernel_rfl) (by kernel_rfl) p50 rfl (fun _ hw => r_extract rfl rfl) (Below.refl _ _) ?_
    refine EA_take 7 rfl (by kernel_rfl) (by kernel_rfl) (by kernel_rfl) (.int .i64 0) rfl (fun _ hw => r_extract rfl rfl) (Below.refl _ _) ?_
    refine EA_take 8 rfl (by kernel_rfl) (by kernel_rfl) (by kernel_rfl) p50 rfl (fun _ hw => r_assign rfl) (Below.refl _ _) ?_
    refine EA_take 9 rfl (by kernel_rfl) (by kernel_rfl) (by kernel_rfl) (.int .i64 0) rfl (fun _ hw => r_assign rfl) (Below.refl _ _) ?_
    refine EA_done (by kernel_rfl) ?_
    refine thn_n ?_
    refine EC_seq ?_
    refine EC_held (fun w' => Below w54.heap.size w54 w') (by kernel_rfl) ?_
    intro w60 B61 z62
    have B63 : Below w.heap.size w w60 := below_full B55 B55.size B61
    have B64 : Below w12.heap.size w12 w60 := below_full B56 B56.size B61
    have B65 : Below w20.heap.size w20 w60 := below_full B57 B57.size B61
    have B66 : Below w28.heap.size w28 w60 := below_full B58 B58.size B61
    have B67 : Below w43.heap.size w43 w60 := below_full B59 B59.size B61
    have B68 : Below w54.heap.size w54 w60 := B61
    refine EA_strong (fun w' => Below w60.heap.size w60 w') (fun _ hw => below_full B68 B68.size hw) ?_
    refine EA_take 0 rfl (by kernel_rfl) (by kernel_rfl) (by kernel_rfl) (.slice (some ⟨b11, 0, none⟩) 32 32) rfl (fun _ hw => r_sliceA rfl Try.underlying32 (by kernel_rfl)) (Below.refl _ _) ?_
    refine EA_take 1 rfl (by kernel_rfl) (by kernel_rfl) (by kernel_rfl) (.int .i64 c) rfl (fun _ hw => r_move rfl) (Below.refl _ _) ?_
    refine EA_take 2 rfl (by kernel_rfl) (by kernel_rfl) (by kernel_rfl) (.slice (some ⟨b19, 0, none⟩) 12 12) rfl (fun _ hw => r_sliceA rfl Try.underlying33 (by kernel_rfl)) (Below.refl _ _) ?_
    refine EA_take 3 rfl (by kernel_rfl) (by kernel_rfl) (by kernel_rfl) v3 rfl (fun _ hw => r_move rfl) (Below.refl _ _) ?_
    have L72 := xo_len k c n b
    refine EA_call 4 rfl (by kernel_rfl) [.slice (some ⟨b11, 0, none⟩) 32 32, .int .i64 c, .slice (some ⟨b19, 0, none⟩) 12 12, v3] (.inl rfl) rfl Try.func12 rfl nm12 rfl (XOR_ok (.slice (some ⟨b11, 0, none⟩) 32 32) k c (.slice (some ⟨b19, 0, none⟩) 12 12) n v3 b w60 (R17.below B64) (R25.below B65) (H3.below B63) (chk_of (by omega) (by omega) (by omega)) (by first | omega | (simp; done) | (simp; omega))) ?_
    rintro _ w73 ⟨p69, rfl, O70, B71⟩
    have B74 : Below w.heap.size w w73 := below_full B63 B63.size B71
    have B75 : Below w12.heap.size w12 w73 := below_full B64 B64.size B71
    have B76 : Below w20.heap.size w20 w73 := below_full B65 B65.size B71
    have B77 : Below w28.heap.size w28 w73 := below_full B66 B66.size B71
    have B78 : Below w43.heap.size w43 w73 := below_full B67 B67.size B71
    have B79 : Below w54.heap.size w54 w73 := below_full B68 B68.size B71
    have B80 : Below w60.heap.size w60 w73 := B71
    refine ⟨B80, ?_⟩
    refine EA_strong (fun w' => Below w73.heap.size w73 w') (fun _ hw => below_full B80 B80.size hw) ?_
    refine EA_take 5 rfl (by kernel_rfl) (by kernel_rfl) (by kernel_rfl) (.tuple #[p69, .int .i64 0]) rfl (fun _ hw => r_move rfl) (Below.refl _ _) ?_
    refine EA_take 6 rfl (by kernel_rfl) (by kernel_rfl) (by kernel_rfl) p69 rfl (fun _ hw => r_extract rfl rfl) (Below.refl _ _) ?_
    refine EA_take 7 rfl (by kernel_rfl) (by kernel_rfl) (by kernel_rfl) (.int .i64 0) rfl (fun _ hw => r_extract rfl rfl) (Below.refl _ _) ?_
    refine EA_take 8 rfl (by kernel_rfl) (by kernel_rfl) (by kernel_rfl) p69 rfl (fun _ hw => r_assign rfl) (Below.refl _ _) ?_
    refine EA_take 9 rfl (by kernel_rfl) (by kernel_rfl) (by kernel_rfl) (.int .i64 0) rfl (fun _ hw => r_assign rfl) (Below.refl _ _) ?_
    refine EA_done (by kernel_rfl) ?_
    refine thn_n ?_
    refine EC_seq ?_
    refine EC_seq ?_
    refine EC_reg ?_
    refine EL_val (.int .i64 0) w73 rfl (r_move rfl) ?_
    refine EL_val (.bool false) w73 rfl (r_dec (by decide) (r_neq rfl rfl)) ?_
    refine EL_val (.bool false) w73 rfl (r_move rfl) ?_
    refine EL_gval 54 rfl rfl rfl rfl (.int .i64 0) w73 rfl (r_move rfl) ?_
    refine EL_gval 54 rfl rfl rfl rfl (.bool false) w73 rfl (r_dec (by decide) (r_neq rfl rfl)) ?_
    refine EL_val (.bool false) w73 rfl (r_pickF rfl rfl) ?_
    refine EL_nil ?_
    refine thn_n ?_
    refine EC_cond_false rfl ?_
    refine EC_skip ?_
    refine thn_n ?_
    refine EC_seq ?_
    refine EC_seq ?_
    refine EC_reg ?_
    refine EL_val v2 w73 rfl (r_move rfl) ?_
    refine EL_val (.int .i64 (a.length : Int)) w73 rfl (lenB (r_len rfl (H2.below B74) Try.underlying22)) ?_
    refine EL_val (.int .i64 0) w73 rfl (r_move rfl) ?_
    refine EL_nil ?_
    refine thn_n ?_
    refine EC_block ?_
    refine EC_loop (fun m' E' w' => ∃ i : Int, m' = (a.length - i).toNat ∧ E' 60 = .int .i64 i ∧ E' 3 = v2 ∧ E' 4 = v3 ∧ E' 11 = p50 ∧ E' 13 = p69 ∧ E' 59 = .int .i64 (a.length : Int) ∧ (0 ≤ i ∧ i ≤ (a.length : Int)) ∧ Below w.heap.size w w' ∧ Below w12.heap.size w12 w' ∧ Below w20.heap.size w20 w' ∧ Below w28.heap.size w28 w' ∧ Below w43.heap.size w43 w' ∧ Below w54.heap.size w54 w' ∧ Below w60.heap.size w60 w' ∧ Below w73.heap.size w73 w') _ ⟨0, rfl, rfl, rfl, rfl, rfl, rfl, rfl, by omega, B74, B75, B76, B77, B78, B79, B80, (Below.refl _ _)⟩ ?_
    rintro _ E81 w82 ⟨i, rfl, e83, e84, e85, e86, e87, e88, hi, B89, B90, B91, B92, B93, B94, B95, B96⟩
    refine EC_seq ?_
    refine EC_reg ?_
    refine EL_val (.bool (decide (i < (a.length : Int)))) w82 rfl (r_lss (by exact e83) (by exact e88)) ?_
    refine EL_nil ?_
    refine thn_n ?_
    refine EC_seq ?_
    refine EC_if (p := i < (a.length : Int)) rfl (fun h97 => ?_) (fun h97 => ?_)
    · refine EC_skip ?_
      refine thn_n ?_
      refine EC_seq ?_
      refine EC_block ?_
      refine EC_seq ?_
      refine EC_reg ?_
      refine EL_val (.int .i64 i) w82 rfl (r_move (by exact e83)) ?_
      refine EL_val (.int .i64 i) w82 rfl (r_assign rfl) ?_
      refine EL_nil ?_
      refine thn_n ?_
      refine EC_seq ?_
      refine EC_quietB (by kernel_rfl) (by kernel_rfl) ?_
      refine EQ_val p50 rfl (fun _ hw => r_move (by exact e86)) ?_
      refine EQ_val (.int .i64 i) rfl (fun _ hw => r_move rfl) ?_
      refine EQ_val (.pointer (some (at_ p50 ((i : Int).toNat)))) rfl (fun _ hw => r_index rfl (((own_row O51).below B94).below hw) rfl (by omega) (by first | omega | (simp; omega) | simp) Try.underlying22 (by kernel_rfl)) ?_
      obtain ⟨b98, hb99⟩ := get_some (l := xo k c n a) (j := (i : Int).toNat) (by omega)
      have hb100 := b98.toNat_lt
      refine EQ_val (.int .u8 (b98.toNat : Int)) rfl (fun _ hw => r_load rfl ((((own_row O51).below B94).below hw).cell (bs_get hb99)) Try.underlying5 rfl) ?_
      refine EQ_val p69 rfl (fun _ hw => r_move (by exact e87)) ?_
      refine EQ_val (.int .i64 i) rfl (fun _ hw => r_move rfl) ?_
      refine EQ_val (.pointer (some (at_ p69 ((i : Int).toNat)))) rfl (fun _ hw => r_index rfl (((own_row O70).below B96).below hw) rfl (by omega) (by first | omega | (simp; omega) | simp) Try.underlying22 (by kernel_rfl)) ?_
      obtain ⟨b101, hb102⟩ := get_some (l := xo k c n b) (j := (i : Int).toNat) (by omega)
      have hb103 := b101.toNat_lt
      refine EQ_val (.int .u8 (b101.toNat : Int)) rfl (fun _ hw => r_load rfl ((((own_row O70).below B96).below hw).cell (bs_get hb102)) Try.underlying5 rfl) ?_
      refine EQ_val (.int .u8 ((b98 ^^^ b101).toNat : Int)) rfl (fun _ hw => r_xorb (a := b98) (b := b101) rfl rfl) ?_
      refine EQ_val v2 rfl (fun _ hw => r_move (by exact e84)) ?_
      refine EQ_val (.int .i64 i) rfl (fun _ hw => r_move rfl) ?_
      refine EQ_val (.pointer (some (at_ v2 ((i : Int).toNat)))) rfl (fun _ hw => r_index rfl ((H2.below B89).below hw) rfl (by omega) (by first | omega | (simp; omega) | simp) Try.underlying22 (by kernel_rfl)) ?_
      obtain ⟨b104, hb105⟩ := get_some (l := a) (j := (i : Int).toNat) (by omega)
      have hb106 := b104.toNat_lt
      refine EQ_val (.int .u8 (b104.toNat : Int)) rfl (fun _ hw => r_load rfl (((H2.below B89).below hw).cell (bs_get hb105)) Try.underlying5 rfl) ?_
      refine EQ_val v3 rfl (fun _ hw => r_move (by exact e85)) ?_
      refine EQ_val (.int .i64 i) rfl (fun _ hw => r_move rfl) ?_
      refine EQ_val (.pointer (some (at_ v3 ((i : Int).toNat)))) rfl (fun _ hw => r_index rfl ((H3.below B89).below hw) rfl (by omega) (by first | omega | (simp; omega) | simp) Try.underlying22 (by kernel_rfl)) ?_
      obtain ⟨b107, hb108⟩ := get_some (l := b) (j := (i : Int).toNat) (by omega)
      have hb109 := b107.toNat_lt
      refine EQ_val (.int .u8 (b107.toNat : Int)) rfl (fun _ hw => r_load rfl (((H3.below B89).below hw).cell (bs_get hb108)) Try.underlying5 rfl) ?_
      refine EQ_val (.int .u8 ((b104 ^^^ b107).toNat : Int)) rfl (fun _ hw => r_xorb (a := b104) (b := b107) rfl rfl) ?_
      refine EQ_val (.bool false) rfl (fun _ hw => r_dec (show (decide (((b98 ^^^ b101).toNat : Int) ≠ ((b104 ^^^ b107).toNat : Int))) = false from by have e := xo_mix hb99 hb102 hb105 hb108; simp [e]) (r_neq rfl rfl)) ?_
      refine EQ_nil ?_
      intro w110 B111
      have B112 : Below w.heap.size w w110 := below_full B89 B89.size B111
      have B113 : Below w12.heap.size w12 w110 := below_full B90 B90.size B111
      have B114 : Below w20.heap.size w20 w110 := below_full B91 B91.size B111
      have B115 : Below w28.heap.size w28 w110 := below_full B92 B92.size B111
      have B116 : Below w43.heap.size w43 w110 := below_full B93 B93.size B111
      have B117 : Below w54.heap.size w54 w110 := below_full B94 B94.size B111
      have B118 : Below w60.heap.size w60 w110 := below_full B95 B95.size B111
      have B119 : Below w73.heap.size w73 w110 := below_full B96 B96.size B111
      have B120 : Below w82.heap.size w82 w110 := B111
      refine thn_n ?_
      refine EC_cond_false rfl ?_
      refine EC_skip ?_
      refine inB_n ?_
      refine thn_n ?_
      refine EC_reg ?_
      refine EL_int (i + 1) rfl (r_addi (by exact e83) rfl (by omega)) ?_
      intro x121 hx121
      refine EL_val (.int .i64 x121) w110 rfl (r_move rfl) ?_
      refine EL_nil ?_
      refine thn_n ?_
      refine ⟨_, ?_, x121, rfl, rfl, (by exact e84), (by exact e85), (by exact e86), (by exact e87), (by exact e88), by omega, B112, B113, B114, B115, B116, B117, B118, B119⟩
      first | omega | (simp; omega)
    · refine EC_exit ?_
      refine thn_x ?_
      refine thn_x ?_
      refine inB_hit ?_
      refine thn_n ?_
      refine EC_seq ?_
      refine EC_reg ?_
      refine EL_val (.bool true) w82 rfl (r_assign rfl) ?_
      refine EL_nil ?_
      refine thn_n ?_
      refine EC_ret ?_
      refine fin1 Try.results8 (show _ = .bool true from rfl) ⟨_, rfl, ?_⟩
      exact ⟨rfl, B89⟩
theorem own : ownKnob Try.prog.godebug = none := by kernel_rfl
theorem laidOut : laidOutB Try.prog = true := by kernel_rfl
set_option maxRecDepth 100000 in
theorem lifted (os : Os) (started : os.Started) (H : Type) (enc : TypeId × Value → H) :
    ReturnsInHanded {} Try.checked os 8 .any (Rows.chachaMixesSpec.pre6 enc Try.prog Try.f8 Rows.chachaMixesRow.domain false) (Rows.chachaMixesSpec.post enc Try.prog Try.f8 false true false false) := by
  refine returnsInHanded_of_change (C := Try.checked) own started (by kernel_rfl) Try.func8
    (ChangeSpec.witness6 (enc := enc) (C := Try.checked) false ⟨#[], #[.agg #[.int .u8 0, .int .u8 0, .int .u8 0, .int .u8 0, .int .u8 0, .int .u8 0, .int .u8 0, .int .u8 0, .int .u8 0, .int .u8 0, .int .u8 0, .int .u8 0, .int .u8 0, .int .u8 0, .int .u8 0, .int .u8 0, .int .u8 0, .int .u8 0, .int .u8 0, .int .u8 0, .int .u8 0, .int .u8 0, .int .u8 0, .int .u8 0, .int .u8 0, .int .u8 0, .int .u8 0, .int .u8 0, .int .u8 0, .int .u8 0, .int .u8 0, .int .u8 0], .int .i64 0, .agg #[.int .u8 0, .int .u8 0, .int .u8 0, .int .u8 0, .int .u8 0, .int .u8 0, .int .u8 0, .int .u8 0, .int .u8 0, .int .u8 0, .int .u8 0, .int .u8 0], .slice none 0 0, .slice none 0 0], []⟩ 8 (by kernel_rfl) (by kernel_rfl) (by kernel_rfl) (by kernel_rfl)) ?_
  intro W base args ds gs before hval0 hW hcnd _
  have hval : ∀ (j : Nat) t v, Try.f8.params[j]? = some t → args[j]? = some v → Value.okWide Try.prog W .any base t v := hval0
  have hW' := hW
  obtain ⟨p, q, hA0, hV, rfl, hfz, hnd⟩ := hW
  have hA : DataW.TrodAll enc Try.prog W 0 (fun _ => true) true Try.f8.params.toList args.toList ds p := hA0
  rw [Try.params8] at hA hval
  obtain ⟨v0, vs0, d0, ds0, p0, q0, hargs, rfl, rfl, h0, r0⟩ := trodAll_cons hA
  obtain ⟨v1, vs1, d1, ds1, p1, q1, rfl, rfl, rfl, h1, r1⟩ := trodAll_cons r0
  obtain ⟨v2, vs2, d2, ds2, p2, q2, rfl, rfl, rfl, h2, r2⟩ := trodAll_cons r1
  obtain ⟨v3, vs3, d3, ds3, p3, q3, rfl, rfl, rfl, h3, r3⟩ := trodAll_cons r2
  obtain ⟨v4, vs4, d4, ds4, p4, q4, rfl, rfl, rfl, h4, r4⟩ := trodAll_cons r3
  obtain ⟨rfl, rfl, rfl⟩ := trodAll_nil r4
  obtain rfl : args = #[v0, v1, v2, v3, v4] := by cases args; simp_all
  obtain ⟨rfl, rfl⟩ := trodVars_none hV
  have k0 := h0
  have lt0 : ∀ x ∈ p0, x.block < W.heap.size := by obtain ⟨m, hm⟩ := k0; exact DataW.trod_lt m _ _ _ hm
  obtain ⟨l0, hl0, rfl⟩ := arr_open (n := 32) Try.underlying32 Try.underlying5 (by kernel_rfl) (by kernel_rfl) (hval 0 32 v0 rfl rfl) h0
  have k1 := h1
  have lt1 : ∀ x ∈ p1, x.block < W.heap.size := by obtain ⟨m, hm⟩ := k1; exact DataW.trod_lt m _ _ _ hm
  obtain ⟨a1, rfl, rfl, rfl, w1⟩ := open_int Try.underlying3 (hval 1 3 v1 rfl rfl) h1
  have k2 := h2
  have lt2 : ∀ x ∈ p2, x.block < W.heap.size := by obtain ⟨m, hm⟩ := k2; exact DataW.trod_lt m _ _ _ hm
  obtain ⟨l2, hl2, rfl⟩ := arr_open (n := 12) Try.underlying33 Try.underlying5 (by kernel_rfl) (by kernel_rfl) (hval 2 33 v2 rfl rfl) h2
  have k3 := h3
  have lt3 : ∀ x ∈ p3, x.block < W.heap.size := by obtain ⟨m, hm⟩ := k3; exact DataW.trod_lt m _ _ _ hm
  obtain ⟨a3, len3, cap3, rfl⟩ := okWide_slice Try.underlying22 (hval 3 22 v3 rfl rfl)
  obtain ⟨b3, H3⟩ : ∃ l, Bs W (.slice a3 len3 cap3) l := by
    obtain ⟨fuel, hf⟩ := h3
    rcases open_ints Try.underlying22 Try.underlying5 (by kernel_rfl) hf with ⟨hcs, _⟩ | ⟨x, l, c, zs, hcs, _, hl, hm, hz, _, hcell, hwz⟩
    · simp [Value.cells] at hcs
      obtain ⟨rfl, rfl, rfl⟩ := hcs
      exact ⟨[], Row.nil W⟩
    · simp [Value.cells] at hcs
      obtain ⟨rfl, rfl, rfl⟩ := hcs
      exact bs_open hl hm (by simpa using hz) hcell hwz
  have k4 := h4
  have lt4 : ∀ x ∈ p4, x.block < W.heap.size := by obtain ⟨m, hm⟩ := k4; exact DataW.trod_lt m _ _ _ hm
  obtain ⟨a4, len4, cap4, rfl⟩ := okWide_slice Try.underlying22 (hval 4 22 v4 rfl rfl)
  obtain ⟨b4, H4⟩ : ∃ l, Bs W (.slice a4 len4 cap4) l := by
    obtain ⟨fuel, hf⟩ := h4
    rcases open_ints Try.underlying22 Try.underlying5 (by kernel_rfl) hf with ⟨hcs, _⟩ | ⟨x, l, c, zs, hcs, _, hl, hm, hz, _, hcell, hwz⟩
    · simp [Value.cells] at hcs
      obtain ⟨rfl, rfl, rfl⟩ := hcs
      exact ⟨[], Row.nil W⟩
    · simp [Value.cells] at hcs
      obtain ⟨rfl, rfl, rfl⟩ := hcs
      exact bs_open hl hm (by simpa using hz) hcell hwz
  clear hA0 hval0
  refine Calls.mono (ChachaMixes_c l0 a1 l2 (.slice a3 len3 cap3) b3 (.slice a4 len4 cap4) b4 W hl0 (rng_i64 w1) hl2 H3 H4) fun e W' ⟨v', he, hv, bel⟩ => ?_
  subst he
  subst hv
  exact ⟨_, rfl, _, _, _, [], _, [], hW', trodAll_mk1 (shut_bool Try.underlying4 _), (trodAll_cons_mk (Below.trod laidOut (by kernel_rfl) (of_decide_eq_true (by kernel_rfl)) k0 bel lt0) (trodAll_cons_mk (Below.trod laidOut (by kernel_rfl) (of_decide_eq_true (by kernel_rfl)) k1 bel lt1) (trodAll_cons_mk (Below.trod laidOut (by kernel_rfl) (of_decide_eq_true (by kernel_rfl)) k2 bel lt2) (trodAll_cons_mk (Below.trod laidOut (by kernel_rfl) (of_decide_eq_true (by kernel_rfl)) k3 bel lt3) (trodAll_cons_mk (Below.trod laidOut (by kernel_rfl) (of_decide_eq_true (by kernel_rfl)) k4 bel lt4) trodAll_mk0))))), rfl, bel.frame _, fun h => by cases h⟩
theorem over : Rows.chachaMixesRow.holds Try.pinned (OpenSpec.ofChange Rows.chachaMixesSpec) :=
  OpenClaim.holds_of_wide 8 Try.f8 rfl rfl rfl rfl rfl rfl rfl ⟨rfl, rfl, rfl, rfl, rfl⟩ rfl rfl rfl rfl rfl (by kernel_rfl) Try.func8 (by kernel_rfl)
    (of_decide_eq_true (by kernel_rfl)) (by unfold Func.isWrapper; first | (rw [if_pos (by decide +kernel)]; kernel_rfl) | (rw [if_neg (by decide +kernel)]; exact ⟨rfl, rfl⟩))
    (fun os started H enc _ => lifted os started H enc)
end Go.Proofs.Ytanlbploeifhpaa.chachaMixes
namespace Go.Proofs.Ytanlbploeifhpaa
theorem ChachaMixes_holds : Rows.ChachaMixesSaid := chachaMixes.over
end Go.Proofs.Ytanlbploeifhpaa
