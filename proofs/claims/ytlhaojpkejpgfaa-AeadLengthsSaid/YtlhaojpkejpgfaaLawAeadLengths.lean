/-
  A box is sixteen bytes longer than its text; texts of one length have boxes that are as far apart, byte by byte, as they are, ahead of the tags.
  Its conditions: none: whatever the input, in whatever memory.
-/
import Derived.Test.YtlhaojpkejpgfaaRows
import Derived.Test.YtlhaojpkejpgfaaWalksC
import Derived.ProofKit
import Derived.OpenShut
import Derived.ShutString
import Derived.ChangeOld
set_option linter.unusedVariables false
set_option linter.unusedSimpArgs false
namespace Go.Proofs.Ytlhaojpkejpgfaa.aeadLengths
open Go.ChangeShapes Go.WideShapes Go.ChangeAt Go.RowKit Go.Ecal
open Go.ChangeMaps (open_string shut_string)
set_option maxRecDepth 100000 in
set_option maxHeartbeats 4000000 in
theorem AeadLengths_c (k : List UInt8) (n : List UInt8) (v2 : Value) (a : List UInt8) (v3 : Value) (b : List UInt8) (w : World) (hk : k.length = 32) (hn : n.length = 12) (H2 : Bs w v2 a) (H3 : Bs w v3 b) : Ret Try.prog 6 [.agg (k.map byt).toArray, .agg (n.map byt).toArray, v2, v3] w fun v w' => v = .bool true ∧ Below w.heap.size w w' := by
  refine ret_E Try.func6 rfl Try.ntmps6 (by simp) ?_
  refine EC_seq ?_
  refine EC_reg ?_
  refine EL_box (k.map byt) rfl rfl rfl ?_
  intro b11 w12 k13 A14 B15 z16
  have B18 : Below w.heap.size w w12 := B15
  have R17 : Bs w12 (.slice (some ⟨b11, 0, none⟩) 32 32) k := barr_row A14 (by omega) (by decide)
  refine EL_box (n.map byt) rfl rfl rfl ?_
  intro b19 w20 k21 A22 B23 z24
  have B26 : Below w.heap.size w w20 := below_full B18 B18.size B23
  have B27 : Below w12.heap.size w12 w20 := B23
  have R25 : Bs w20 (.slice (some ⟨b19, 0, none⟩) 12 12) n := barr_row A22 (by omega) (by decide)
  refine EL_val (.bool false) w20 rfl (r_assign rfl) ?_
  refine EL_nil ?_
  refine thn_n ?_
  refine EC_seq ?_
  refine EC_seq ?_
  refine EC_reg ?_
  refine EL_ret [] rfl Try.func9 rfl nm9 rfl (anchor_c w20) ?_
  rintro _ w28 ⟨rfl, B29⟩
  have B30 : Below w.heap.size w w28 := below_full B26 B26.size B29
  have B31 : Below w12.heap.size w12 w28 := below_full B27 B27.size B29
  have B32 : Below w20.heap.size w20 w28 := B29
  refine EL_val (.bool false) w28 rfl (r_dec (show (!true) = false from rfl) (r_not rfl)) ?_
  refine EL_nil ?_
  refine thn_n ?_
  refine EC_cond_false rfl ?_
  refine EC_skip ?_
  refine thn_n ?_
  refine EC_seq ?_
  refine EC_seq ?_
  refine EC_reg ?_
  refine EL_val v2 w28 rfl (r_move rfl) ?_
  refine EL_val (.int .i64 (a.length : Int)) w28 rfl (lenB (r_len rfl (H2.below B30) Try.underlying22)) ?_
  refine EL_val (.bool (decide (200 < (a.length : Int)))) w28 rfl (r_gtr rfl rfl) ?_
  refine EL_val (.bool (decide (200 < (a.length : Int)))) w28 rfl (r_move rfl) ?_
  refine EL_gite 19 rfl rfl rfl v3 rfl (fun g33 => r_move rfl) ?_
  refine EL_gite 19 rfl rfl rfl (.int .i64 (b.length : Int)) rfl (fun g34 => lenB (r_len (cond_of g34 rfl) (H3.below B30) Try.underlying22)) ?_
  refine EL_gite 19 rfl rfl rfl (.bool (decide (200 < (b.length : Int)))) rfl (fun g35 => r_gtr (cond_of g35 rfl) rfl) ?_
  refine EL_val (.bool ((decide (200 < (a.length : Int))) || (decide (200 < (b.length : Int))))) w28 rfl (r_or rfl rfl rfl) ?_
  refine EL_nil ?_
  refine thn_n ?_
  refine EC_cond (t := (decide (200 < (a.length : Int))) || (decide (200 < (b.length : Int)))) rfl (fun h36 => ?_) (fun h36 => ?_)
  · simp at h36
    refine EC_seq ?_
    refine EC_reg ?_
    refine EL_val (.bool true) w28 rfl (r_assign rfl) ?_
    refine EL_nil ?_
    refine thn_n ?_
    refine EC_ret ?_
    refine thn_r ?_
    refine fin1 Try.results6 (show _ = .bool true from rfl) ⟨_, rfl, ?_⟩
    exact ⟨rfl, B30⟩
  · simp at h36
    refine EC_skip ?_
    refine thn_n ?_
    refine EC_seq ?_
    refine EC_held (fun w' => Below w28.heap.size w28 w') (by kernel_rfl) ?_
    intro w37 B38 z39
    have B40 : Below w.heap.size w w37 := below_full B30 B30.size B38
    have B41 : Below w12.heap.size w12 w37 := below_full B31 B31.size B38
    have B42 : Below w20.heap.size w20 w37 := below_full B32 B32.size B38
    have B43 : Below w28.heap.size w28 w37 := B38
    refine EA_strong (fun w' => Below w37.heap.size w37 w') (fun _ hw => below_full B43 B43.size hw) ?_
    refine EA_take 0 rfl (by kernel_rfl) (by kernel_rfl) (by kernel_rfl) (.slice (some ⟨b11, 0, none⟩) 32 32) rfl (fun _ hw => r_sliceA rfl Try.underlying31 (by kernel_rfl)) (Below.refl _ _) ?_
    refine EA_take 1 rfl (by kernel_rfl) (by kernel_rfl) (by kernel_rfl) (.slice (some ⟨b19, 0, none⟩) 12 12) rfl (fun _ hw => r_sliceA rfl Try.underlying32 (by kernel_rfl)) (Below.refl _ _) ?_
    refine EA_take 2 rfl (by kernel_rfl) (by kernel_rfl) (by kernel_rfl) v2 rfl (fun _ hw => r_move rfl) (Below.refl _ _) ?_
    refine EA_call 3 rfl (by kernel_rfl) [.slice (some ⟨b11, 0, none⟩) 32 32, .slice (some ⟨b19, 0, none⟩) 12 12, .slice none 0 0, v2] (.inl rfl) rfl Try.func10 rfl nm10 rfl (Seal_ok (.slice (some ⟨b11, 0, none⟩) 32 32) k (.slice (some ⟨b19, 0, none⟩) 12 12) n (.slice none 0 0) ([] : List UInt8) v2 a w37 (R17.below B41) (R25.below B42) (Row.nil _) (H2.below B40) (by first | omega | (simp; done) | (simp; omega)) (by first | omega | (simp; done) | (simp; omega)) (by first | omega | (simp; done) | (simp; omega)) (by first | omega | (simp; done) | (simp; omega))) ?_
    rintro _ w47 ⟨p44, rfl, O45, B46⟩
    have B48 : Below w.heap.size w w47 := below_full B40 B40.size B46
    have B49 : Below w12.heap.size w12 w47 := below_full B41 B41.size B46
    have B50 : Below w20.heap.size w20 w47 := below_full B42 B42.size B46
    have B51 : Below w28.heap.size w28 w47 := below_full B43 B43.size B46
    have B52 : Below w37.heap.size w37 w47 := B46
    refine ⟨B52, ?_⟩
    refine EA_strong (fun w' => Below w47.heap.size w47 w') (fun _ hw => below_full B52 B52.size hw) ?_
    have L53 := box_len k n ([] : List UInt8) a
    refine EA_take 4 rfl (by kernel_rfl) (by kernel_rfl) (by kernel_rfl) (.tuple #[p44, .int .i64 0]) rfl (fun _ hw => r_move rfl) (Below.refl _ _) ?_
    refine EA_take 5 rfl (by kernel_rfl) (by kernel_rfl) (by kernel_rfl) p44 rfl (fun _ hw => r_extract rfl rfl) (Below.refl _ _) ?_
    refine EA_take 6 rfl (by kernel_rfl) (by kernel_rfl) (by kernel_rfl) (.int .i64 0) rfl (fun _ hw => r_extract rfl rfl) (Below.refl _ _) ?_
    refine EA_take 7 rfl (by kernel_rfl) (by kernel_rfl) (by kernel_rfl) p44 rfl (fun _ hw => r_assign rfl) (Below.refl _ _) ?_
    refine EA_take 8 rfl (by kernel_rfl) (by kernel_rfl) (by kernel_rfl) (.int .i64 0) rfl (fun _ hw => r_assign rfl) (Below.refl _ _) ?_
    refine EA_done (by kernel_rfl) ?_
    refine thn_n ?_
    refine EC_seq ?_
    refine EC_held (fun w' => Below w47.heap.size w47 w') (by kernel_rfl) ?_
    intro w54 B55 z56
    have B57 : Below w.heap.size w w54 := below_full B48 B48.size B55
    have B58 : Below w12.heap.size w12 w54 := below_full B49 B49.size B55
    have B59 : Below w20.heap.size w20 w54 := below_full B50 B50.size B55
    have B60 : Below w28.heap.size w28 w54 := below_full B51 B51.size B55
    have B61 : Below w37.heap.size w37 w54 := below_full B52 B52.size B55
    have B62 : Below w47.heap.size w47 w54 := B55
    refine EA_strong (fun w' => Below w54.heap.size w54 w') (fun _ hw => below_full B62 B62.size hw) ?_
    refine EA_take 0 rfl (by kernel_rfl) (by kernel_rfl) (by kernel_rfl) (.slice (some ⟨b11, 0, none⟩) 32 32) rfl (fun _ hw => r_sliceA rfl Try.underlying31 (by kernel_rfl)) (Below.refl _ _) ?_
    refine EA_take 1 rfl (by kernel_rfl) (by kernel_rfl) (by kernel_rfl) (.slice (some ⟨b19, 0, none⟩) 12 12) rfl (fun _ hw => r_sliceA rfl Try.underlying32 (by kernel_rfl)) (Below.refl _ _) ?_
    refine EA_take 2 rfl (by kernel_rfl) (by kernel_rfl) (by kernel_rfl) v3 rfl (fun _ hw => r_move rfl) (Below.refl _ _) ?_
    refine EA_call 3 rfl (by kernel_rfl) [.slice (some ⟨b11, 0, none⟩) 32 32, .slice (some ⟨b19, 0, none⟩) 12 12, .slice none 0 0, v3] (.inl rfl) rfl Try.func10 rfl nm10 rfl (Seal_ok (.slice (some ⟨b11, 0, none⟩) 32 32) k (.slice (some ⟨b19, 0, none⟩) 12 12) n (.slice none 0 0) ([] : List UInt8) v3 b w54 (R17.below B58) (R25.below B59) (Row.nil _) (H3.below B57) (by first | omega | (simp; done) | (simp; omega)) (by first | omega | (simp; done) | (simp; omega)) (by first | omega | (simp; done) | (simp; omega)) (by first | omega | (simp; done) | (simp; omega))) ?_
    rintro _ w66 ⟨p63, rfl, O64, B65⟩
    have B67 : Below w.heap.size w w66 := below_full B57 B57.size B65
    have B68 : Below w12.heap.size w12 w66 := below_full B58 B58.size B65
    have B69 : Below w20.heap.size w20 w66 := below_full B59 B59.size B65
    have B70 : Below w28.heap.size w28 w66 := below_full B60 B60.size B65
    have B71 : Below w37.heap.size w37 w66 := below_full B61 B61.size B65
    have B72 : Below w47.heap.size w47 w66 := below_full B62 B62.size B65
    have B73 : Below w54.heap.size w54 w66 := B65
    refine ⟨B73, ?_⟩
    refine EA_strong (fun w' => Below w66.heap.size w66 w') (fun _ hw => below_full B73 B73.size hw) ?_
    have L74 := box_len k n ([] : List UInt8) b
    refine EA_take 4 rfl (by kernel_rfl) (by kernel_rfl) (by kernel_rfl) (.tuple #[p63, .int .i64 0]) rfl (fun _ hw => r_move rfl) (Below.refl _ _) ?_
    refine EA_take 5 rfl (by kernel_rfl) (by kernel_rfl) (by kernel_rfl) p63 rfl (fun _ hw => r_extract rfl rfl) (Below.refl _ _) ?_
    refine EA_take 6 rfl (by kernel_rfl) (by kernel_rfl) (by kernel_rfl) (.int .i64 0) rfl (fun _ hw => r_extract rfl rfl) (Below.refl _ _) ?_
    refine EA_take 7 rfl (by kernel_rfl) (by kernel_rfl) (by kernel_rfl) p63 rfl (fun _ hw => r_assign rfl) (Below.refl _ _) ?_
    refine EA_take 8 rfl (by kernel_rfl) (by kernel_rfl) (by kernel_rfl) (.int .i64 0) rfl (fun _ hw => r_assign rfl) (Below.refl _ _) ?_
    refine EA_done (by kernel_rfl) ?_
    refine thn_n ?_
    refine EC_seq ?_
    refine EC_seq ?_
    refine EC_reg ?_
    refine EL_val (.int .i64 0) w66 rfl (r_move rfl) ?_
    refine EL_val (.bool false) w66 rfl (r_dec (by decide) (r_neq rfl rfl)) ?_
    refine EL_val (.bool false) w66 rfl (r_move rfl) ?_
    refine EL_gval 40 rfl rfl rfl rfl (.int .i64 0) w66 rfl (r_move rfl) ?_
    refine EL_gval 40 rfl rfl rfl rfl (.bool false) w66 rfl (r_dec (by decide) (r_neq rfl rfl)) ?_
    refine EL_val (.bool false) w66 rfl (r_pickF rfl rfl) ?_
    refine EL_val (.bool false) w66 rfl (r_move rfl) ?_
    refine EL_gval 44 rfl rfl rfl rfl p44 w66 rfl (r_move rfl) ?_
    refine EL_gval 44 rfl rfl rfl rfl (.int .i64 ((box k n ([] : List UInt8) a).length : Int)) w66 rfl (lenB (r_len rfl ((own_row O45).below B72) Try.underlying22)) ?_
    refine EL_gval 44 rfl rfl rfl rfl v2 w66 rfl (r_move rfl) ?_
    refine EL_gval 44 rfl rfl rfl rfl (.int .i64 (a.length : Int)) w66 rfl (lenB (r_len rfl (H2.below B67) Try.underlying22)) ?_
    refine EL_gval 44 rfl rfl rfl rfl (.int .i64 ((a.length : Int) + 16)) w66 rfl (r_addi rfl rfl (by omega)) ?_
    refine EL_gval 44 rfl rfl rfl rfl (.bool false) w66 rfl (r_dec (show (decide (((box k n ([] : List UInt8) a).length : Int) ≠ ((a.length : Int) + 16))) = false from by rw [box_len]; simp) (r_neq rfl rfl)) ?_
    refine EL_val (.bool false) w66 rfl (r_pickF rfl rfl) ?_
    refine EL_val (.bool false) w66 rfl (r_move rfl) ?_
    refine EL_gval 52 rfl rfl rfl rfl p63 w66 rfl (r_move rfl) ?_
    refine EL_gval 52 rfl rfl rfl rfl (.int .i64 ((box k n ([] : List UInt8) b).length : Int)) w66 rfl (lenB (r_len rfl (own_row O64) Try.underlying22)) ?_
    refine EL_gval 52 rfl rfl rfl rfl v3 w66 rfl (r_move rfl) ?_
    refine EL_gval 52 rfl rfl rfl rfl (.int .i64 (b.length : Int)) w66 rfl (lenB (r_len rfl (H3.below B67) Try.underlying22)) ?_
    refine EL_gval 52 rfl rfl rfl rfl (.int .i64 ((b.length : Int) + 16)) w66 rfl (r_addi rfl rfl (by omega)) ?_
    refine EL_gval 52 rfl rfl rfl rfl (.bool false) w66 rfl (r_dec (show (decide (((box k n ([] : List UInt8) b).length : Int) ≠ ((b.length : Int) + 16))) = false from by rw [box_len]; simp) (r_neq rfl rfl)) ?_
    refine EL_val (.bool false) w66 rfl (r_pickF rfl rfl) ?_
    refine EL_nil ?_
    refine thn_n ?_
    refine EC_cond_false rfl ?_
    refine EC_skip ?_
    refine thn_n ?_
    refine EC_seq ?_
    refine EC_seq ?_
    refine EC_reg ?_
    refine EL_val v2 w66 rfl (r_move rfl) ?_
    refine EL_val (.int .i64 (a.length : Int)) w66 rfl (lenB (r_len rfl (H2.below B67) Try.underlying22)) ?_
    refine EL_val v3 w66 rfl (r_move rfl) ?_
    refine EL_val (.int .i64 (b.length : Int)) w66 rfl (lenB (r_len rfl (H3.below B67) Try.underlying22)) ?_
    refine EL_int (if (b.length : Int) < (a.length : Int) then (b.length : Int) else (a.length : Int)) rfl (r_min rfl rfl) ?_
    intro x77 hx77
    refine EL_val (.int .i64 0) w66 rfl (r_move rfl) ?_
    refine EL_nil ?_
    refine thn_n ?_
    refine EC_block ?_
    refine EC_loop (fun m' E' w' => ∃ i : Int, m' = (a.length - i).toNat ∧ E' 65 = .int .i64 i ∧ E' 2 = v2 ∧ E' 3 = v3 ∧ E' 9 = p44 ∧ E' 11 = p63 ∧ E' 64 = .int .i64 x77 ∧ (0 ≤ i ∧ i ≤ (a.length : Int) ∧ i ≤ (b.length : Int)) ∧ Below w.heap.size w w' ∧ Below w12.heap.size w12 w' ∧ Below w20.heap.size w20 w' ∧ Below w28.heap.size w28 w' ∧ Below w37.heap.size w37 w' ∧ Below w47.heap.size w47 w' ∧ Below w54.heap.size w54 w' ∧ Below w66.heap.size w66 w') _ ⟨0, rfl, rfl, rfl, rfl, rfl, rfl, rfl, by omega, B67, B68, B69, B70, B71, B72, B73, (Below.refl _ _)⟩ ?_
    rintro _ E78 w79 ⟨i, rfl, e80, e81, e82, e83, e84, e85, hi, B86, B87, B88, B89, B90, B91, B92, B93⟩
    refine EC_seq ?_
    refine EC_reg ?_
    refine EL_val (.bool (decide (i < x77))) w79 rfl (r_lss (by exact e80) (by exact e85)) ?_
    refine EL_nil ?_
    refine thn_n ?_
    refine EC_seq ?_
    refine EC_if (p := i < x77) rfl (fun h94 => ?_) (fun h94 => ?_)
    · refine EC_skip ?_
      refine thn_n ?_
      refine EC_seq ?_
      refine EC_block ?_
      refine EC_seq ?_
      refine EC_reg ?_
      refine EL_val (.int .i64 i) w79 rfl (r_move (by exact e80)) ?_
      refine EL_val (.int .i64 i) w79 rfl (r_assign rfl) ?_
      refine EL_nil ?_
      refine thn_n ?_
      refine EC_seq ?_
      refine EC_quietB (by kernel_rfl) (by kernel_rfl) ?_
      refine EQ_val p44 rfl (fun _ hw => r_move (by exact e83)) ?_
      refine EQ_val (.int .i64 i) rfl (fun _ hw => r_move rfl) ?_
      refine EQ_val (.pointer (some (at_ p44 ((i : Int).toNat)))) rfl (fun _ hw => r_index rfl (((own_row O45).below B91).below hw) rfl (by omega) (by first | omega | (simp; omega) | simp) Try.underlying22 (by kernel_rfl)) ?_
      obtain ⟨b95, hb96⟩ := get_some (l := box k n ([] : List UInt8) a) (j := (i : Int).toNat) (by omega)
      have hb97 := b95.toNat_lt
      refine EQ_val (.int .u8 (b95.toNat : Int)) rfl (fun _ hw => r_load rfl ((((own_row O45).below B91).below hw).cell (bs_get hb96)) Try.underlying5 rfl) ?_
      refine EQ_val p63 rfl (fun _ hw => r_move (by exact e84)) ?_
      refine EQ_val (.int .i64 i) rfl (fun _ hw => r_move rfl) ?_
      refine EQ_val (.pointer (some (at_ p63 ((i : Int).toNat)))) rfl (fun _ hw => r_index rfl (((own_row O64).below B93).below hw) rfl (by omega) (by first | omega | (simp; omega) | simp) Try.underlying22 (by kernel_rfl)) ?_
      obtain ⟨b98, hb99⟩ := get_some (l := box k n ([] : List UInt8) b) (j := (i : Int).toNat) (by omega)
      have hb100 := b98.toNat_lt
      refine EQ_val (.int .u8 (b98.toNat : Int)) rfl (fun _ hw => r_load rfl ((((own_row O64).below B93).below hw).cell (bs_get hb99)) Try.underlying5 rfl) ?_
      refine EQ_val (.int .u8 ((b95 ^^^ b98).toNat : Int)) rfl (fun _ hw => r_xorb (a := b95) (b := b98) rfl rfl) ?_
      refine EQ_val v2 rfl (fun _ hw => r_move (by exact e81)) ?_
      refine EQ_val (.int .i64 i) rfl (fun _ hw => r_move rfl) ?_
      refine EQ_val (.pointer (some (at_ v2 ((i : Int).toNat)))) rfl (fun _ hw => r_index rfl ((H2.below B86).below hw) rfl (by omega) (by first | omega | (simp; omega) | simp) Try.underlying22 (by kernel_rfl)) ?_
      obtain ⟨b101, hb102⟩ := get_some (l := a) (j := (i : Int).toNat) (by omega)
      have hb103 := b101.toNat_lt
      refine EQ_val (.int .u8 (b101.toNat : Int)) rfl (fun _ hw => r_load rfl (((H2.below B86).below hw).cell (bs_get hb102)) Try.underlying5 rfl) ?_
      refine EQ_val v3 rfl (fun _ hw => r_move (by exact e82)) ?_
      refine EQ_val (.int .i64 i) rfl (fun _ hw => r_move rfl) ?_
      refine EQ_val (.pointer (some (at_ v3 ((i : Int).toNat)))) rfl (fun _ hw => r_index rfl ((H3.below B86).below hw) rfl (by omega) (by first | omega | (simp; omega) | simp) Try.underlying22 (by kernel_rfl)) ?_
      obtain ⟨b104, hb105⟩ := get_some (l := b) (j := (i : Int).toNat) (by omega)
      have hb106 := b104.toNat_lt
      refine EQ_val (.int .u8 (b104.toNat : Int)) rfl (fun _ hw => r_load rfl (((H3.below B86).below hw).cell (bs_get hb105)) Try.underlying5 rfl) ?_
      refine EQ_val (.int .u8 ((b101 ^^^ b104).toNat : Int)) rfl (fun _ hw => r_xorb (a := b101) (b := b104) rfl rfl) ?_
      refine EQ_val (.bool false) rfl (fun _ hw => r_dec (show (decide (((b95 ^^^ b98).toNat : Int) ≠ ((b101 ^^^ b104).toNat : Int))) = false from by have e := box_mix hb96 hb99 hb102 hb105; simp [e]) (r_neq rfl rfl)) ?_
      refine EQ_nil ?_
      intro w107 B108
      have B109 : Below w.heap.size w w107 := below_full B86 B86.size B108
      have B110 : Below w12.heap.size w12 w107 := below_full B87 B87.size B108
      have B111 : Below w20.heap.size w20 w107 := below_full B88 B88.size B108
      have B112 : Below w28.heap.size w28 w107 := below_full B89 B89.size B108
      have B113 : Below w37.heap.size w37 w107 := below_full B90 B90.size B108
      have B114 : Below w47.heap.size w47 w107 := below_full B91 B91.size B108
      have B115 : Below w54.heap.size w54 w107 := below_full B92 B92.size B108
      have B116 : Below w66.heap.size w66 w107 := below_full B93 B93.size B108
      have B117 : Below w79.heap.size w79 w107 := B108
      refine thn_n ?_
      refine EC_cond_false rfl ?_
      refine EC_skip ?_
      refine inB_n ?_
      refine thn_n ?_
      refine EC_reg ?_
      refine EL_int (i + 1) rfl (r_addi (by exact e80) rfl (by omega)) ?_
      intro x118 hx118
      refine EL_val (.int .i64 x118) w107 rfl (r_move rfl) ?_
      refine EL_nil ?_
      refine thn_n ?_
      refine ⟨_, ?_, x118, rfl, rfl, (by exact e81), (by exact e82), (by exact e83), (by exact e84), (by exact e85), by omega, B109, B110, B111, B112, B113, B114, B115, B116⟩
      first | omega | (simp; omega)
    · refine EC_exit ?_
      refine thn_x ?_
      refine thn_x ?_
      refine inB_hit ?_
      refine thn_n ?_
      refine EC_seq ?_
      refine EC_reg ?_
      refine EL_val (.bool true) w79 rfl (r_assign rfl) ?_
      refine EL_nil ?_
      refine thn_n ?_
      refine EC_ret ?_
      refine fin1 Try.results6 (show _ = .bool true from rfl) ⟨_, rfl, ?_⟩
      exact ⟨rfl, B86⟩
theorem own : ownKnob Try.prog.godebug = none := by kernel_rfl
theorem laidOut : laidOutB Try.prog = true := by kernel_rfl
set_option maxRecDepth 100000 in
theorem lifted (os : Os) (started : os.Started) (H : Type) (enc : TypeId × Value → H) :
    ReturnsInHanded {} Try.checked os 6 .any (Rows.aeadLengthsSpec.pre6 enc Try.prog Try.f6 Rows.aeadLengthsRow.domain false) (Rows.aeadLengthsSpec.post enc Try.prog Try.f6 false true false false) := by
  refine returnsInHanded_of_change (C := Try.checked) own started (by kernel_rfl) Try.func6
    (ChangeSpec.witness6 (enc := enc) (C := Try.checked) false ⟨#[], #[.agg #[.int .u8 0, .int .u8 0, .int .u8 0, .int .u8 0, .int .u8 0, .int .u8 0, .int .u8 0, .int .u8 0, .int .u8 0, .int .u8 0, .int .u8 0, .int .u8 0, .int .u8 0, .int .u8 0, .int .u8 0, .int .u8 0, .int .u8 0, .int .u8 0, .int .u8 0, .int .u8 0, .int .u8 0, .int .u8 0, .int .u8 0, .int .u8 0, .int .u8 0, .int .u8 0, .int .u8 0, .int .u8 0, .int .u8 0, .int .u8 0, .int .u8 0, .int .u8 0], .agg #[.int .u8 0, .int .u8 0, .int .u8 0, .int .u8 0, .int .u8 0, .int .u8 0, .int .u8 0, .int .u8 0, .int .u8 0, .int .u8 0, .int .u8 0, .int .u8 0], .slice none 0 0, .slice none 0 0], []⟩ 8 (by kernel_rfl) (by kernel_rfl) (by kernel_rfl) (by kernel_rfl)) ?_
  intro W base args ds gs before hval0 hW hcnd _
  have hval : ∀ (j : Nat) t v, Try.f6.params[j]? = some t → args[j]? = some v → Value.okWide Try.prog W .any base t v := hval0
  have hW' := hW
  obtain ⟨p, q, hA0, hV, rfl, hfz, hnd⟩ := hW
  have hA : DataW.TrodAll enc Try.prog W 0 (fun _ => true) true Try.f6.params.toList args.toList ds p := hA0
  rw [Try.params6] at hA hval
  obtain ⟨v0, vs0, d0, ds0, p0, q0, hargs, rfl, rfl, h0, r0⟩ := trodAll_cons hA
  obtain ⟨v1, vs1, d1, ds1, p1, q1, rfl, rfl, rfl, h1, r1⟩ := trodAll_cons r0
  obtain ⟨v2, vs2, d2, ds2, p2, q2, rfl, rfl, rfl, h2, r2⟩ := trodAll_cons r1
  obtain ⟨v3, vs3, d3, ds3, p3, q3, rfl, rfl, rfl, h3, r3⟩ := trodAll_cons r2
  obtain ⟨rfl, rfl, rfl⟩ := trodAll_nil r3
  obtain rfl : args = #[v0, v1, v2, v3] := by cases args; simp_all
  obtain ⟨rfl, rfl⟩ := trodVars_none hV
  have k0 := h0
  have lt0 : ∀ x ∈ p0, x.block < W.heap.size := by obtain ⟨m, hm⟩ := k0; exact DataW.trod_lt m _ _ _ hm
  obtain ⟨l0, hl0, rfl⟩ := arr_open (n := 32) Try.underlying31 Try.underlying5 (by kernel_rfl) (by kernel_rfl) (hval 0 31 v0 rfl rfl) h0
  have k1 := h1
  have lt1 : ∀ x ∈ p1, x.block < W.heap.size := by obtain ⟨m, hm⟩ := k1; exact DataW.trod_lt m _ _ _ hm
  obtain ⟨l1, hl1, rfl⟩ := arr_open (n := 12) Try.underlying32 Try.underlying5 (by kernel_rfl) (by kernel_rfl) (hval 1 32 v1 rfl rfl) h1
  have k2 := h2
  have lt2 : ∀ x ∈ p2, x.block < W.heap.size := by obtain ⟨m, hm⟩ := k2; exact DataW.trod_lt m _ _ _ hm
  obtain ⟨a2, len2, cap2, rfl⟩ := okWide_slice Try.underlying22 (hval 2 22 v2 rfl rfl)
  obtain ⟨b2, H2⟩ : ∃ l, Bs W (.slice a2 len2 cap2) l := by
    obtain ⟨fuel, hf⟩ := h2
    rcases open_ints Try.underlying22 Try.underlying5 (by kernel_rfl) hf with ⟨hcs, _⟩ | ⟨x, l, c, zs, hcs, _, hl, hm, hz, _, hcell, hwz⟩
    · simp [Value.cells] at hcs
      obtain ⟨rfl, rfl, rfl⟩ := hcs
      exact ⟨[], Row.nil W⟩
    · simp [Value.cells] at hcs
      obtain ⟨rfl, rfl, rfl⟩ := hcs
      exact bs_open hl hm (by simpa using hz) hcell hwz
  have k3 := h3
  have lt3 : ∀ x ∈ p3, x.block < W.heap.size := by obtain ⟨m, hm⟩ := k3; exact DataW.trod_lt m _ _ _ hm
  obtain ⟨a3, len3, cap3, rfl⟩ := okWide_slice Try.underlying22 (hval 3 22 v3 rfl rfl)
  obtain ⟨b3, H3⟩ : ∃ l, Bs W (.slice a3 len3 cap3) l := by
    obtain ⟨fuel, hf⟩ := h3
    rcases open_ints Try.underlying22 Try.underlying5 (by kernel_rfl) hf with ⟨hcs, _⟩ | ⟨x, l, c, zs, hcs, _, hl, hm, hz, _, hcell, hwz⟩
    · simp [Value.cells] at hcs
      obtain ⟨rfl, rfl, rfl⟩ := hcs
      exact ⟨[], Row.nil W⟩
    · simp [Value.cells] at hcs
      obtain ⟨rfl, rfl, rfl⟩ := hcs
      exact bs_open hl hm (by simpa using hz) hcell hwz
  clear hA0 hval0
  refine Calls.mono (AeadLengths_c l0 l1 (.slice a2 len2 cap2) b2 (.slice a3 len3 cap3) b3 W hl0 hl1 H2 H3) fun e W' ⟨v', he, hv, bel⟩ => ?_
  subst he
  subst hv
  exact ⟨_, rfl, _, _, _, [], _, [], hW', trodAll_mk1 (shut_bool Try.underlying4 _), (trodAll_cons_mk (Below.trod laidOut (by kernel_rfl) (of_decide_eq_true (by kernel_rfl)) k0 bel lt0) (trodAll_cons_mk (Below.trod laidOut (by kernel_rfl) (of_decide_eq_true (by kernel_rfl)) k1 bel lt1) (trodAll_cons_mk (Below.trod laidOut (by kernel_rfl) (of_decide_eq_true (by kernel_rfl)) k2 bel lt2) (trodAll_cons_mk (Below.trod laidOut (by kernel_rfl) (of_decide_eq_true (by kernel_rfl)) k3 bel lt3) trodAll_mk0)))), rfl, bel.frame _, fun h => by cases h⟩
theorem over : Rows.aeadLengthsRow.holds Try.pinned (OpenSpec.ofChange Rows.aeadLengthsSpec) :=
  OpenClaim.holds_of_wide 6 Try.f6 rfl rfl rfl rfl rfl rfl rfl ⟨rfl, rfl, rfl, rfl, rfl⟩ rfl rfl rfl rfl rfl (by kernel_rfl) Try.func6 (by kernel_rfl)
    (of_decide_eq_true (by kernel_rfl)) (by unfold Func.isWrapper; first | (rw [if_pos (by decide +kernel)]; kernel_rfl) | (rw [if_neg (by decide +kernel)]; exact ⟨rfl, rfl⟩))
    (fun os started H enc _ => lifted os started H enc)
end Go.Proofs.Ytlhaojpkejpgfaa.aeadLengths
namespace Go.Proofs.Ytlhaojpkejpgfaa
theorem AeadLengths_holds : Rows.AeadLengthsSaid := aeadLengths.over
end Go.Proofs.Ytlhaojpkejpgfaa
