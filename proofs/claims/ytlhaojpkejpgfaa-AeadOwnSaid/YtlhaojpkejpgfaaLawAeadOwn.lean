/-
  Texts and boxes that were handed in are not changed, and what is told is its own.
  Its conditions: none: whatever the input, in whatever memory.
-/
import Derived.Test.YtlhaojpkejpgfaaRows
import Derived.Test.YtlhaojpkejpgfaaWalksC
import Derived.ProofKit
import Derived.OpenShut
import Derived.ShutString
import Derived.ChangeOld
set_option linter.unusedVariables false
set_option linter.unusedSimpArgs false
namespace Go.Proofs.Ytlhaojpkejpgfaa.aeadOwn
open Go.ChangeShapes Go.WideShapes Go.ChangeAt Go.RowKit Go.Ecal
open Go.ChangeMaps (open_string shut_string)
set_option maxRecDepth 100000 in
set_option maxHeartbeats 4000000 in
theorem AeadOwn_c (k : List UInt8) (n : List UInt8) (v2 : Value) (t : List UInt8) (w : World) (hk : k.length = 32) (hn : n.length = 12) (H2 : Bs w v2 t) : Ret Try.prog 8 [.agg (k.map byt).toArray, .agg (n.map byt).toArray, v2] w fun v w' => v = .bool true ∧ Below w.heap.size w w' := by
  refine ret_E Try.func8 rfl Try.ntmps8 (by simp) ?_
  refine EC_seq ?_
  refine EC_reg ?_
  refine EL_box (k.map byt) rfl rfl rfl ?_
  intro b11 w12 k13 A14 B15 z16
  have B18 : Below w.heap.size w w12 := B15
  have R17 : Bs w12 (.slice (some ⟨b11, 0, none⟩) 32 32) k := barr_row A14 (by omega) (by decide)
  refine EL_box (n.map byt) rfl rfl rfl ?_
  intro b19 w20 k21 A22 B23 z24
  have B26 : Below w.heap.size w w20 := below_full B18 B18.size B23
  have B27 : Below w12.heap.size w12 w20 := B23
  have R25 : Bs w20 (.slice (some ⟨b19, 0, none⟩) 12 12) n := barr_row A22 (by omega) (by decide)
  refine EL_val (.bool false) w20 rfl (r_assign rfl) ?_
  refine EL_nil ?_
  refine thn_n ?_
  refine EC_seq ?_
  refine EC_seq ?_
  refine EC_reg ?_
  refine EL_ret [] rfl Try.func9 rfl nm9 rfl (anchor_c w20) ?_
  rintro _ w28 ⟨rfl, B29⟩
  have B30 : Below w.heap.size w w28 := below_full B26 B26.size B29
  have B31 : Below w12.heap.size w12 w28 := below_full B27 B27.size B29
  have B32 : Below w20.heap.size w20 w28 := B29
  refine EL_val (.bool false) w28 rfl (r_dec (show (!true) = false from rfl) (r_not rfl)) ?_
  refine EL_nil ?_
  refine thn_n ?_
  refine EC_cond_false rfl ?_
  refine EC_skip ?_
  refine thn_n ?_
  refine EC_seq ?_
  refine EC_seq ?_
  refine EC_reg ?_
  refine EL_val v2 w28 rfl (r_move rfl) ?_
  refine EL_val (.int .i64 (t.length : Int)) w28 rfl (lenB (r_len rfl (H2.below B30) Try.underlying22)) ?_
  refine EL_val (.bool (decide (200 < (t.length : Int)))) w28 rfl (r_gtr rfl rfl) ?_
  refine EL_nil ?_
  refine thn_n ?_
  refine EC_if (p := 200 < (t.length : Int)) rfl (fun h33 => ?_) (fun h33 => ?_)
  · refine EC_seq ?_
    refine EC_reg ?_
    refine EL_val (.bool true) w28 rfl (r_assign rfl) ?_
    refine EL_nil ?_
    refine thn_n ?_
    refine EC_ret ?_
    refine thn_r ?_
    refine fin1 Try.results8 (show _ = .bool true from rfl) ⟨_, rfl, ?_⟩
    exact ⟨rfl, B30⟩
  · refine EC_skip ?_
    refine thn_n ?_
    refine EC_seq ?_
    refine EC_reg ?_
    refine EL_val v2 w28 rfl (r_move rfl) ?_
    refine EL_val (.int .i64 (t.length : Int)) w28 rfl (lenB (r_len rfl (H2.below B30) Try.underlying22)) ?_
    refine EL_int ((t.length : Int) + 64) rfl (r_addi rfl rfl (by omega)) ?_
    intro x34 hx34
    refine EL_make w28.heap.size elB rfl rfl rfl rfl (by omega) (by omega) (by omega) (by omega) (Nat.le_refl _) ?_
    intro v35 w36 O37 B38 k39 z40
    have B41 : Below w.heap.size w w36 := below_full B30 B30.size B38
    have B42 : Below w12.heap.size w12 w36 := below_full B31 B31.size B38
    have B43 : Below w20.heap.size w20 w36 := below_full B32 B32.size B38
    have B44 : Below w28.heap.size w28 w36 := B38
    have O45 := own_rep O37
    refine EL_val v2 w36 rfl (r_move rfl) ?_
    refine EL_append (v := v35) (xs := (List.replicate (0 : Int).toNat (0 : UInt8)).map byt) (ys := t.map byt) w28.heap.size elB rfl rfl rfl (by simpa using O45) (H2.below B41) (byt_one _) (by first | (simp only [List.length_map, List.length_nil]; omega) | (simp; done) | (simp; omega)) (by decide) B44.size ?_
    intro v46 w47 O48 G49 A50
    have O48' := own_app O48
    have B51 : Below w.heap.size w w47 := below_grew B41 G49 O45 B30.size (B41.size)
    have B52 : Below w12.heap.size w12 w47 := below_grew B42 G49 O45 B31.size (B42.size)
    have B53 : Below w20.heap.size w20 w47 := below_grew B43 G49 O45 B32.size (B43.size)
    have B54 : Below w28.heap.size w28 w47 := below_grew B44 G49 O45 (Nat.le_refl _) (B44.size)
    refine EL_val v46 w47 rfl (r_assign rfl) ?_
    have O56 := own_as O48' (show (List.replicate (0 : Int).toNat (0 : UInt8)) ++ t = t by simp)
    refine EL_nil ?_
    refine thn_n ?_
    refine EC_seq ?_
    refine EC_held (fun w' => Below w47.heap.size w47 w') (by kernel_rfl) ?_
    intro w57 B58 z59
    have B60 : Below w.heap.size w w57 := below_full B51 B51.size B58
    have B61 : Below w12.heap.size w12 w57 := below_full B52 B52.size B58
    have B62 : Below w20.heap.size w20 w57 := below_full B53 B53.size B58
    have B63 : Below w28.heap.size w28 w57 := below_full B54 B54.size B58
    have B64 : Below w47.heap.size w47 w57 := B58
    refine EA_strong (fun w' => Below w57.heap.size w57 w') (fun _ hw => below_full B64 B64.size hw) ?_
    refine EA_take 0 rfl (by kernel_rfl) (by kernel_rfl) (by kernel_rfl) (.slice (some ⟨b11, 0, none⟩) 32 32) rfl (fun _ hw => r_sliceA rfl Try.underlying31 (by kernel_rfl)) (Below.refl _ _) ?_
    refine EA_take 1 rfl (by kernel_rfl) (by kernel_rfl) (by kernel_rfl) (.slice (some ⟨b19, 0, none⟩) 12 12) rfl (fun _ hw => r_sliceA rfl Try.underlying32 (by kernel_rfl)) (Below.refl _ _) ?_
    refine EA_take 2 rfl (by kernel_rfl) (by kernel_rfl) (by kernel_rfl) v46 rfl (fun _ hw => r_move rfl) (Below.refl _ _) ?_
    refine EA_call 3 rfl (by kernel_rfl) [.slice (some ⟨b11, 0, none⟩) 32 32, .slice (some ⟨b19, 0, none⟩) 12 12, .slice none 0 0, v46] (.inl rfl) rfl Try.func10 rfl nm10 rfl (Seal_ok (.slice (some ⟨b11, 0, none⟩) 32 32) k (.slice (some ⟨b19, 0, none⟩) 12 12) n (.slice none 0 0) ([] : List UInt8) v46 t w57 (R17.below B61) (R25.below B62) (Row.nil _) ((own_row O56).below B64) (by first | omega | (simp; done) | (simp; omega)) (by first | omega | (simp; done) | (simp; omega)) (by first | omega | (simp; done) | (simp; omega)) (by first | omega | (simp; done) | (simp; omega))) ?_
    rintro _ w68 ⟨p65, rfl, O66, B67⟩
    have B69 : Below w.heap.size w w68 := below_full B60 B60.size B67
    have B70 : Below w12.heap.size w12 w68 := below_full B61 B61.size B67
    have B71 : Below w20.heap.size w20 w68 := below_full B62 B62.size B67
    have B72 : Below w28.heap.size w28 w68 := below_full B63 B63.size B67
    have B73 : Below w47.heap.size w47 w68 := below_full B64 B64.size B67
    have B74 : Below w57.heap.size w57 w68 := B67
    refine ⟨B74, ?_⟩
    refine EA_strong (fun w' => Below w68.heap.size w68 w') (fun _ hw => below_full B74 B74.size hw) ?_
    have L75 := box_len k n ([] : List UInt8) t
    refine EA_take 4 rfl (by kernel_rfl) (by kernel_rfl) (by kernel_rfl) (.tuple #[p65, .int .i64 0]) rfl (fun _ hw => r_move rfl) (Below.refl _ _) ?_
    refine EA_take 5 rfl (by kernel_rfl) (by kernel_rfl) (by kernel_rfl) p65 rfl (fun _ hw => r_extract rfl rfl) (Below.refl _ _) ?_
    refine EA_take 6 rfl (by kernel_rfl) (by kernel_rfl) (by kernel_rfl) (.int .i64 0) rfl (fun _ hw => r_extract rfl rfl) (Below.refl _ _) ?_
    refine EA_take 7 rfl (by kernel_rfl) (by kernel_rfl) (by kernel_rfl) p65 rfl (fun _ hw => r_assign rfl) (Below.refl _ _) ?_
    refine EA_take 8 rfl (by kernel_rfl) (by kernel_rfl) (by kernel_rfl) (.int .i64 0) rfl (fun _ hw => r_assign rfl) (Below.refl _ _) ?_
    refine EA_done (by kernel_rfl) ?_
    refine thn_n ?_
    refine EC_seq ?_
    refine EC_reg ?_
    refine EL_val p65 w68 rfl (r_move rfl) ?_
    refine EL_val (.int .i64 ((box k n ([] : List UInt8) t).length : Int)) w68 rfl (lenB (r_len rfl (own_row O66) Try.underlying22)) ?_
    refine EL_int (((box k n ([] : List UInt8) t).length : Int) + 64) rfl (r_addi rfl rfl (by omega)) ?_
    intro x76 hx76
    refine EL_make w68.heap.size elB rfl rfl rfl rfl (by omega) (by omega) (by omega) (by omega) (Nat.le_refl _) ?_
    intro v77 w78 O79 B80 k81 z82
    have B83 : Below w.heap.size w w78 := below_full B69 B69.size B80
    have B84 : Below w12.heap.size w12 w78 := below_full B70 B70.size B80
    have B85 : Below w20.heap.size w20 w78 := below_full B71 B71.size B80
    have B86 : Below w28.heap.size w28 w78 := below_full B72 B72.size B80
    have B87 : Below w47.heap.size w47 w78 := below_full B73 B73.size B80
    have B88 : Below w57.heap.size w57 w78 := below_full B74 B74.size B80
    have B89 : Below w68.heap.size w68 w78 := B80
    have O90 := own_rep O79
    refine EL_val p65 w78 rfl (r_move rfl) ?_
    refine EL_append (v := v77) (xs := (List.replicate (0 : Int).toNat (0 : UInt8)).map byt) (ys := (box k n ([] : List UInt8) t).map byt) w68.heap.size elB rfl rfl rfl (by simpa using O90) ((own_row O66).below B89) (byt_one _) (by first | (simp only [List.length_map, List.length_nil]; omega) | (simp; done) | (simp; omega)) (by decide) B89.size ?_
    intro v91 w92 O93 G94 A95
    have O93' := own_app O93
    have B96 : Below w.heap.size w w92 := below_grew B83 G94 O90 B69.size (B83.size)
    have B97 : Below w12.heap.size w12 w92 := below_grew B84 G94 O90 B70.size (B84.size)
    have B98 : Below w20.heap.size w20 w92 := below_grew B85 G94 O90 B71.size (B85.size)
    have B99 : Below w28.heap.size w28 w92 := below_grew B86 G94 O90 B72.size (B86.size)
    have B100 : Below w47.heap.size w47 w92 := below_grew B87 G94 O90 B73.size (B87.size)
    have B101 : Below w57.heap.size w57 w92 := below_grew B88 G94 O90 B74.size (B88.size)
    have B102 : Below w68.heap.size w68 w92 := below_grew B89 G94 O90 (Nat.le_refl _) (B89.size)
    refine EL_val v91 w92 rfl (r_assign rfl) ?_
    have O104 := own_as O93' (show (List.replicate (0 : Int).toNat (0 : UInt8)) ++ (box k n ([] : List UInt8) t) = box k n ([] : List UInt8) t by simp)
    have hlc := box_len k n [] t
    refine EL_nil ?_
    refine thn_n ?_
    refine EC_seq ?_
    refine EC_held (fun w' => Below w92.heap.size w92 w') (by kernel_rfl) ?_
    intro w105 B106 z107
    have B108 : Below w.heap.size w w105 := below_full B96 B96.size B106
    have B109 : Below w12.heap.size w12 w105 := below_full B97 B97.size B106
    have B110 : Below w20.heap.size w20 w105 := below_full B98 B98.size B106
    have B111 : Below w28.heap.size w28 w105 := below_full B99 B99.size B106
    have B112 : Below w47.heap.size w47 w105 := below_full B100 B100.size B106
    have B113 : Below w57.heap.size w57 w105 := below_full B101 B101.size B106
    have B114 : Below w68.heap.size w68 w105 := below_full B102 B102.size B106
    have B115 : Below w92.heap.size w92 w105 := B106
    refine EA_strong (fun w' => Below w105.heap.size w105 w') (fun _ hw => below_full B115 B115.size hw) ?_
    refine EA_take 0 rfl (by kernel_rfl) (by kernel_rfl) (by kernel_rfl) (.slice (some ⟨b11, 0, none⟩) 32 32) rfl (fun _ hw => r_sliceA rfl Try.underlying31 (by kernel_rfl)) (Below.refl _ _) ?_
    refine EA_take 1 rfl (by kernel_rfl) (by kernel_rfl) (by kernel_rfl) (.slice (some ⟨b19, 0, none⟩) 12 12) rfl (fun _ hw => r_sliceA rfl Try.underlying32 (by kernel_rfl)) (Below.refl _ _) ?_
    refine EA_take 2 rfl (by kernel_rfl) (by kernel_rfl) (by kernel_rfl) v91 rfl (fun _ hw => r_move rfl) (Below.refl _ _) ?_
    have L119 := xo_len k 1 n ((box k n ([] : List UInt8) t).take ((box k n ([] : List UInt8) t).length - 16))
    refine EA_call 3 rfl (by kernel_rfl) [.slice (some ⟨b11, 0, none⟩) 32 32, .slice (some ⟨b19, 0, none⟩) 12 12, .slice none 0 0, v91] (.inl rfl) rfl Try.func12 rfl nm12 rfl (Open_ok (.slice (some ⟨b11, 0, none⟩) 32 32) k (.slice (some ⟨b19, 0, none⟩) 12 12) n (.slice none 0 0) ([] : List UInt8) v91 (box k n ([] : List UInt8) t) w105 (R17.below B109) (R25.below B110) (Row.nil _) ((own_row O104).below B115) (by first | omega | (simp; done) | (simp; omega)) (by first | omega | (simp; done) | (simp; omega)) (by first | omega | (simp; done) | (simp; omega)) (by first | omega | (rw [box_len]; decide) | (simp; done) | (simp; omega)) (box_is _ _ _ _)) ?_
    rintro _ w120 ⟨p116, rfl, O117, B118⟩
    have B121 : Below w.heap.size w w120 := below_full B108 B108.size B118
    have B122 : Below w12.heap.size w12 w120 := below_full B109 B109.size B118
    have B123 : Below w20.heap.size w20 w120 := below_full B110 B110.size B118
    have B124 : Below w28.heap.size w28 w120 := below_full B111 B111.size B118
    have B125 : Below w47.heap.size w47 w120 := below_full B112 B112.size B118
    have B126 : Below w57.heap.size w57 w120 := below_full B113 B113.size B118
    have B127 : Below w68.heap.size w68 w120 := below_full B114 B114.size B118
    have B128 : Below w92.heap.size w92 w120 := below_full B115 B115.size B118
    have B129 : Below w105.heap.size w105 w120 := B118
    refine ⟨B129, ?_⟩
    refine EA_strong (fun w' => Below w120.heap.size w120 w') (fun _ hw => below_full B129 B129.size hw) ?_
    refine EA_take 4 rfl (by kernel_rfl) (by kernel_rfl) (by kernel_rfl) (.tuple #[p116, .int .i64 0]) rfl (fun _ hw => r_move rfl) (Below.refl _ _) ?_
    refine EA_take 5 rfl (by kernel_rfl) (by kernel_rfl) (by kernel_rfl) p116 rfl (fun _ hw => r_extract rfl rfl) (Below.refl _ _) ?_
    refine EA_take 6 rfl (by kernel_rfl) (by kernel_rfl) (by kernel_rfl) (.int .i64 0) rfl (fun _ hw => r_extract rfl rfl) (Below.refl _ _) ?_
    refine EA_take 7 rfl (by kernel_rfl) (by kernel_rfl) (by kernel_rfl) p116 rfl (fun _ hw => r_assign rfl) (Below.refl _ _) ?_
    refine EA_take 8 rfl (by kernel_rfl) (by kernel_rfl) (by kernel_rfl) (.int .i64 0) rfl (fun _ hw => r_assign rfl) (Below.refl _ _) ?_
    refine EA_done (by kernel_rfl) ?_
    refine thn_n ?_
    refine EC_seq ?_
    refine EC_seq ?_
    refine EC_reg ?_
    refine EL_val p116 w120 rfl (r_move rfl) ?_
    refine EL_val (.int .i64 ((xo k 1 n ((box k n ([] : List UInt8) t).take ((box k n ([] : List UInt8) t).length - 16))).length : Int)) w120 rfl (lenB (r_len rfl (own_row O117) Try.underlying22)) ?_
    have hl9 : (xo k 1 n ((box k n ([] : List UInt8) t).take ((box k n ([] : List UInt8) t).length - 16))).length = t.length := by rw [box_head, xo_xo]
    refine EL_val (.int .i64 0) w120 rfl (r_move rfl) ?_
    refine EL_nil ?_
    refine thn_n ?_
    refine EC_block ?_
    refine EC_loop (fun m' E' w' => ∃ i : Int, ∃ tl : List UInt8, m' = (t.length - i).toNat ∧ E' 49 = .int .i64 i ∧ E' 2 = v2 ∧ E' 3 = ptr b11 ∧ E' 4 = ptr b19 ∧ E' 6 = .bool false ∧ E' 7 = v46 ∧ E' 8 = p65 ∧ E' 9 = .int .i64 0 ∧ E' 10 = v91 ∧ E' 11 = p116 ∧ E' 12 = .int .i64 0 ∧ E' 48 = .int .i64 ((xo k 1 n ((box k n ([] : List UInt8) t).take ((box k n ([] : List UInt8) t).length - 16))).length : Int) ∧ (0 ≤ i) ∧ (tl.length = t.length) ∧ Below w.heap.size w w' ∧ Below w12.heap.size w12 w' ∧ Below w20.heap.size w20 w' ∧ Below w28.heap.size w28 w' ∧ Below w47.heap.size w47 w' ∧ Below w57.heap.size w57 w' ∧ Below w68.heap.size w68 w' ∧ Below w92.heap.size w92 w' ∧ Below w105.heap.size w105 w' ∧ w'.ownsRow w105.heap.size 5 1 p116 (tl).length ((tl).map byt)) _ ⟨0, xo k 1 n ((box k n ([] : List UInt8) t).take ((box k n ([] : List UInt8) t).length - 16)), rfl, rfl, rfl, rfl, rfl, rfl, rfl, rfl, rfl, rfl, rfl, rfl, rfl, by omega, hl9, B121, B122, B123, B124, B125, B126, B127, B128, B129, O117⟩ ?_
    rintro _ E130 w131 ⟨i, tl, rfl, e132, e133, e134, e135, e136, e137, e138, e139, e140, e141, e142, e143, hi, htl, B144, B145, B146, B147, B148, B149, B150, B151, B152, O153⟩
    refine EC_seq ?_
    refine EC_reg ?_
    refine EL_val (.bool (decide (i < ((xo k 1 n ((box k n ([] : List UInt8) t).take ((box k n ([] : List UInt8) t).length - 16))).length : Int)))) w131 rfl (r_lss (by exact e132) (by exact e143)) ?_
    refine EL_nil ?_
    refine thn_n ?_
    refine EC_seq ?_
    refine EC_if (p := i < ((xo k 1 n ((box k n ([] : List UInt8) t).take ((box k n ([] : List UInt8) t).length - 16))).length : Int)) rfl (fun h154 => ?_) (fun h154 => ?_)
    · refine EC_skip ?_
      refine thn_n ?_
      refine EC_seq ?_
      refine EC_block ?_
      refine EC_seq ?_
      refine EC_reg ?_
      refine EL_val (.int .i64 i) w131 rfl (r_move (by exact e132)) ?_
      refine EL_val (.int .i64 i) w131 rfl (r_assign rfl) ?_
      refine EL_nil ?_
      refine thn_n ?_
      refine EC_reg ?_
      refine EL_val p116 w131 rfl (r_move (by exact e141)) ?_
      refine EL_val (.int .i64 i) w131 rfl (r_move rfl) ?_
      refine EL_val (.pointer (some (at_ p116 ((i : Int).toNat)))) w131 rfl (r_index rfl (own_row O153) rfl (by omega) (by first | omega | (simp; omega) | simp) Try.underlying22 (by kernel_rfl)) ?_
      obtain ⟨b155, hb156⟩ := get_some (l := tl) (j := (i : Int).toNat) (by omega)
      have hb157 := b155.toNat_lt
      refine EL_val (.int .u8 (b155.toNat : Int)) w131 rfl (r_load rfl ((own_row O153).cell (bs_get hb156)) Try.underlying5 rfl) ?_
      refine EL_val (.int .u8 ((b155 ^^^ (255 : UInt8)).toNat : Int)) w131 rfl (r_xorb (a := b155) (b := (255 : UInt8)) rfl rfl) ?_
      refine EL_val (.pointer (some (at_ p116 ((i : Int).toNat)))) w131 rfl (r_index rfl (own_row O153) rfl (by omega) (by first | omega | (simp; omega) | simp) Try.underlying22 (by kernel_rfl)) ?_
      refine EL_store (u := byt (b155 ^^^ (255 : UInt8))) rfl rfl O153 (by first | omega | (simp; omega)) rfl (by kernel_rfl) ?_
      intro w158 O159 G160 z161
      have O159' := own_set O159
      have B162 : Below w.heap.size w w158 := below_grew B144 G160 O153 B108.size (B144.size)
      have B163 : Below w12.heap.size w12 w158 := below_grew B145 G160 O153 B109.size (B145.size)
      have B164 : Below w20.heap.size w20 w158 := below_grew B146 G160 O153 B110.size (B146.size)
      have B165 : Below w28.heap.size w28 w158 := below_grew B147 G160 O153 B111.size (B147.size)
      have B166 : Below w47.heap.size w47 w158 := below_grew B148 G160 O153 B112.size (B148.size)
      have B167 : Below w57.heap.size w57 w158 := below_grew B149 G160 O153 B113.size (B149.size)
      have B168 : Below w68.heap.size w68 w158 := below_grew B150 G160 O153 B114.size (B150.size)
      have B169 : Below w92.heap.size w92 w158 := below_grew B151 G160 O153 B115.size (B151.size)
      have B170 : Below w105.heap.size w105 w158 := below_grew B152 G160 O153 (Nat.le_refl _) (B152.size)
      refine EL_nil ?_
      refine inB_n ?_
      refine thn_n ?_
      refine EC_reg ?_
      refine EL_int (i + 1) rfl (r_addi (by exact e132) rfl (by omega)) ?_
      intro x171 hx171
      refine EL_val (.int .i64 x171) w158 rfl (r_move rfl) ?_
      refine EL_nil ?_
      refine thn_n ?_
      refine ⟨_, ?_, x171, tl.set ((i : Int).toNat) (b155 ^^^ (255 : UInt8)), rfl, rfl, (by exact e133), (by exact e134), (by exact e135), (by exact e136), (by exact e137), (by exact e138), (by exact e139), (by exact e140), (by exact e141), (by exact e142), (by exact e143), by omega, by simp; omega, B162, B163, B164, B165, B166, B167, B168, B169, B170, O159'⟩
      first | omega | (simp; omega)
    · refine EC_exit ?_
      refine thn_x ?_
      refine thn_x ?_
      refine inB_hit ?_
      refine thn_n ?_
      refine EC_seq ?_
      refine EC_held (fun w' => Below w131.heap.size w131 w') (by kernel_rfl) ?_
      intro w172 B173 z174
      have B175 : Below w.heap.size w w172 := below_full B144 B144.size B173
      have B176 : Below w12.heap.size w12 w172 := below_full B145 B145.size B173
      have B177 : Below w20.heap.size w20 w172 := below_full B146 B146.size B173
      have B178 : Below w28.heap.size w28 w172 := below_full B147 B147.size B173
      have B179 : Below w47.heap.size w47 w172 := below_full B148 B148.size B173
      have B180 : Below w57.heap.size w57 w172 := below_full B149 B149.size B173
      have B181 : Below w68.heap.size w68 w172 := below_full B150 B150.size B173
      have B182 : Below w92.heap.size w92 w172 := below_full B151 B151.size B173
      have B183 : Below w105.heap.size w105 w172 := below_full B152 B152.size B173
      have B184 : Below w131.heap.size w131 w172 := B173
      refine EA_strong (fun w' => Below w172.heap.size w172 w') (fun _ hw => below_full B184 B184.size hw) ?_
      refine EA_take 0 rfl (by kernel_rfl) (by kernel_rfl) (by kernel_rfl) (.slice (some ⟨b11, 0, none⟩) 32 32) rfl (fun _ hw => r_sliceA (by exact e134) Try.underlying31 (by kernel_rfl)) (Below.refl _ _) ?_
      refine EA_take 1 rfl (by kernel_rfl) (by kernel_rfl) (by kernel_rfl) (.slice (some ⟨b19, 0, none⟩) 12 12) rfl (fun _ hw => r_sliceA (by exact e135) Try.underlying32 (by kernel_rfl)) (Below.refl _ _) ?_
      refine EA_take 2 rfl (by kernel_rfl) (by kernel_rfl) (by kernel_rfl) v91 rfl (fun _ hw => r_move (by exact e140)) (Below.refl _ _) ?_
      have L188 := xo_len k 1 n ((box k n ([] : List UInt8) t).take ((box k n ([] : List UInt8) t).length - 16))
      refine EA_call 3 rfl (by kernel_rfl) [.slice (some ⟨b11, 0, none⟩) 32 32, .slice (some ⟨b19, 0, none⟩) 12 12, .slice none 0 0, v91] (.inl rfl) rfl Try.func12 rfl nm12 rfl (Open_ok (.slice (some ⟨b11, 0, none⟩) 32 32) k (.slice (some ⟨b19, 0, none⟩) 12 12) n (.slice none 0 0) ([] : List UInt8) v91 (box k n ([] : List UInt8) t) w172 (R17.below B176) (R25.below B177) (Row.nil _) ((own_row O104).below B182) (by first | omega | (simp; done) | (simp; omega)) (by first | omega | (simp; done) | (simp; omega)) (by first | omega | (simp; done) | (simp; omega)) (by first | omega | (rw [box_len]; decide) | (simp; done) | (simp; omega)) (box_is _ _ _ _)) ?_
      rintro _ w189 ⟨p185, rfl, O186, B187⟩
      have B190 : Below w.heap.size w w189 := below_full B175 B175.size B187
      have B191 : Below w12.heap.size w12 w189 := below_full B176 B176.size B187
      have B192 : Below w20.heap.size w20 w189 := below_full B177 B177.size B187
      have B193 : Below w28.heap.size w28 w189 := below_full B178 B178.size B187
      have B194 : Below w47.heap.size w47 w189 := below_full B179 B179.size B187
      have B195 : Below w57.heap.size w57 w189 := below_full B180 B180.size B187
      have B196 : Below w68.heap.size w68 w189 := below_full B181 B181.size B187
      have B197 : Below w92.heap.size w92 w189 := below_full B182 B182.size B187
      have B198 : Below w105.heap.size w105 w189 := below_full B183 B183.size B187
      have B199 : Below w131.heap.size w131 w189 := below_full B184 B184.size B187
      have B200 : Below w172.heap.size w172 w189 := B187
      refine ⟨B200, ?_⟩
      refine EA_strong (fun w' => Below w189.heap.size w189 w') (fun _ hw => below_full B200 B200.size hw) ?_
      refine EA_take 4 rfl (by kernel_rfl) (by kernel_rfl) (by kernel_rfl) (.tuple #[p185, .int .i64 0]) rfl (fun _ hw => r_move rfl) (Below.refl _ _) ?_
      refine EA_take 5 rfl (by kernel_rfl) (by kernel_rfl) (by kernel_rfl) p185 rfl (fun _ hw => r_extract rfl rfl) (Below.refl _ _) ?_
      refine EA_take 6 rfl (by kernel_rfl) (by kernel_rfl) (by kernel_rfl) (.int .i64 0) rfl (fun _ hw => r_extract rfl rfl) (Below.refl _ _) ?_
      refine EA_take 7 rfl (by kernel_rfl) (by kernel_rfl) (by kernel_rfl) p185 rfl (fun _ hw => r_assign rfl) (Below.refl _ _) ?_
      refine EA_take 8 rfl (by kernel_rfl) (by kernel_rfl) (by kernel_rfl) (.int .i64 0) rfl (fun _ hw => r_assign rfl) (Below.refl _ _) ?_
      refine EA_done (by kernel_rfl) ?_
      refine thn_n ?_
      refine EC_seq ?_
      refine EC_reg ?_
      refine EL_val (.int .i64 0) w189 rfl (r_move (by exact e139)) ?_
      refine EL_val (.bool true) w189 rfl (r_dec (by decide) (r_eql rfl rfl)) ?_
      refine EL_val (.bool true) w189 rfl (r_move rfl) ?_
      refine EL_gval 68 rfl rfl rfl rfl (.int .i64 0) w189 rfl (r_move (by exact e142)) ?_
      refine EL_gval 68 rfl rfl rfl rfl (.bool true) w189 rfl (r_dec (by decide) (r_eql rfl rfl)) ?_
      refine EL_val (.bool true) w189 rfl (r_pickT rfl rfl) ?_
      refine EL_val (.bool true) w189 rfl (r_move rfl) ?_
      refine EL_gval 72 rfl rfl rfl rfl (.int .i64 0) w189 rfl (r_move rfl) ?_
      refine EL_gval 72 rfl rfl rfl rfl (.bool true) w189 rfl (r_dec (by decide) (r_eql rfl rfl)) ?_
      refine EL_val (.bool true) w189 rfl (r_pickT rfl rfl) ?_
      refine EL_val (.bool true) w189 rfl (r_move rfl) ?_
      refine EL_gval 76 rfl rfl rfl rfl v46 w189 rfl (r_move (by exact e137)) ?_
      refine EL_gval 76 rfl rfl rfl rfl (.string (str t)) w189 rfl (r_str rfl ((own_row O56).below B194) Try.underlying22 Try.underlying5 Try.underlying9) ?_
      refine EL_gval 76 rfl rfl rfl rfl v2 w189 rfl (r_move (by exact e133)) ?_
      refine EL_gval 76 rfl rfl rfl rfl (.string (str t)) w189 rfl (r_str rfl (H2.below B190) Try.underlying22 Try.underlying5 Try.underlying9) ?_
      refine EL_gval 76 rfl rfl rfl rfl (.bool true) w189 rfl (r_dec (show (decide (t = t)) = true from by first | (rw [box_head, xo_xo]; simp; done) | (simp; done)) (r_eqls rfl rfl)) ?_
      refine EL_val (.bool true) w189 rfl (r_pickT rfl rfl) ?_
      refine EL_val (.bool true) w189 rfl (r_move rfl) ?_
      refine EL_gval 83 rfl rfl rfl rfl v91 w189 rfl (r_move (by exact e140)) ?_
      refine EL_gval 83 rfl rfl rfl rfl (.string (str (box k n ([] : List UInt8) t))) w189 rfl (r_str rfl ((own_row O104).below B197) Try.underlying22 Try.underlying5 Try.underlying9) ?_
      refine EL_gval 83 rfl rfl rfl rfl p65 w189 rfl (r_move (by exact e138)) ?_
      refine EL_gval 83 rfl rfl rfl rfl (.string (str (box k n ([] : List UInt8) t))) w189 rfl (r_str rfl ((own_row O66).below B196) Try.underlying22 Try.underlying5 Try.underlying9) ?_
      refine EL_gval 83 rfl rfl rfl rfl (.bool true) w189 rfl (r_dec (show (decide ((box k n ([] : List UInt8) t) = (box k n ([] : List UInt8) t))) = true from by first | (rw [box_head, xo_xo]; simp; done) | (simp; done)) (r_eqls rfl rfl)) ?_
      refine EL_val (.bool true) w189 rfl (r_pickT rfl rfl) ?_
      refine EL_val (.bool true) w189 rfl (r_move rfl) ?_
      refine EL_gval 90 rfl rfl rfl rfl p185 w189 rfl (r_move rfl) ?_
      refine EL_gval 90 rfl rfl rfl rfl (.string (str (xo k 1 n ((box k n ([] : List UInt8) t).take ((box k n ([] : List UInt8) t).length - 16))))) w189 rfl (r_str rfl (own_row O186) Try.underlying22 Try.underlying5 Try.underlying9) ?_
      refine EL_gval 90 rfl rfl rfl rfl v2 w189 rfl (r_move (by exact e133)) ?_
      refine EL_gval 90 rfl rfl rfl rfl (.string (str t)) w189 rfl (r_str rfl (H2.below B190) Try.underlying22 Try.underlying5 Try.underlying9) ?_
      refine EL_gval 90 rfl rfl rfl rfl (.bool true) w189 rfl (r_dec (show (decide ((xo k 1 n ((box k n ([] : List UInt8) t).take ((box k n ([] : List UInt8) t).length - 16))) = t)) = true from by first | (rw [box_head, xo_xo]; simp; done) | (simp; done)) (r_eqls rfl rfl)) ?_
      refine EL_val (.bool true) w189 rfl (r_pickT rfl rfl) ?_
      refine EL_val (.bool true) w189 rfl (r_assign rfl) ?_
      refine EL_nil ?_
      refine thn_n ?_
      refine EC_ret ?_
      refine fin1 Try.results8 (show _ = .bool true from rfl) ⟨_, rfl, ?_⟩
      exact ⟨rfl, B190⟩
theorem own : ownKnob Try.prog.godebug = none := by kernel_rfl
theorem laidOut : laidOutB Try.prog = true := by kernel_rfl
set_option maxRecDepth 100000 in
theorem lifted (os : Os) (started : os.Started) (H : Type) (enc : TypeId × Value → H) :
    ReturnsInHanded {} Try.checked os 8 .any (Rows.aeadOwnSpec.pre6 enc Try.prog Try.f8 Rows.aeadOwnRow.domain false) (Rows.aeadOwnSpec.post enc Try.prog Try.f8 false true false false) := by
  refine returnsInHanded_of_change (C := Try.checked) own started (by kernel_rfl) Try.func8
    (ChangeSpec.witness6 (enc := enc) (C := Try.checked) false ⟨#[], #[.agg #[.int .u8 0, .int .u8 0, .int .u8 0, .int .u8 0, .int .u8 0, .int .u8 0, .int .u8 0, .int .u8 0, .int .u8 0, .int .u8 0, .int .u8 0, .int .u8 0, .int .u8 0, .int .u8 0, .int .u8 0, .int .u8 0, .int .u8 0, .int .u8 0, .int .u8 0, .int .u8 0, .int .u8 0, .int .u8 0, .int .u8 0, .int .u8 0, .int .u8 0, .int .u8 0, .int .u8 0, .int .u8 0, .int .u8 0, .int .u8 0, .int .u8 0, .int .u8 0], .agg #[.int .u8 0, .int .u8 0, .int .u8 0, .int .u8 0, .int .u8 0, .int .u8 0, .int .u8 0, .int .u8 0, .int .u8 0, .int .u8 0, .int .u8 0, .int .u8 0], .slice none 0 0], []⟩ 8 (by kernel_rfl) (by kernel_rfl) (by kernel_rfl) (by kernel_rfl)) ?_
  intro W base args ds gs before hval0 hW hcnd _
  have hval : ∀ (j : Nat) t v, Try.f8.params[j]? = some t → args[j]? = some v → Value.okWide Try.prog W .any base t v := hval0
  have hW' := hW
  obtain ⟨p, q, hA0, hV, rfl, hfz, hnd⟩ := hW
  have hA : DataW.TrodAll enc Try.prog W 0 (fun _ => true) true Try.f8.params.toList args.toList ds p := hA0
  rw [Try.params8] at hA hval
  obtain ⟨v0, vs0, d0, ds0, p0, q0, hargs, rfl, rfl, h0, r0⟩ := trodAll_cons hA
  obtain ⟨v1, vs1, d1, ds1, p1, q1, rfl, rfl, rfl, h1, r1⟩ := trodAll_cons r0
  obtain ⟨v2, vs2, d2, ds2, p2, q2, rfl, rfl, rfl, h2, r2⟩ := trodAll_cons r1
  obtain ⟨rfl, rfl, rfl⟩ := trodAll_nil r2
  obtain rfl : args = #[v0, v1, v2] := by cases args; simp_all
  obtain ⟨rfl, rfl⟩ := trodVars_none hV
  have k0 := h0
  have lt0 : ∀ x ∈ p0, x.block < W.heap.size := by obtain ⟨m, hm⟩ := k0; exact DataW.trod_lt m _ _ _ hm
  obtain ⟨l0, hl0, rfl⟩ := arr_open (n := 32) Try.underlying31 Try.underlying5 (by kernel_rfl) (by kernel_rfl) (hval 0 31 v0 rfl rfl) h0
  have k1 := h1
  have lt1 : ∀ x ∈ p1, x.block < W.heap.size := by obtain ⟨m, hm⟩ := k1; exact DataW.trod_lt m _ _ _ hm
  obtain ⟨l1, hl1, rfl⟩ := arr_open (n := 12) Try.underlying32 Try.underlying5 (by kernel_rfl) (by kernel_rfl) (hval 1 32 v1 rfl rfl) h1
  have k2 := h2
  have lt2 : ∀ x ∈ p2, x.block < W.heap.size := by obtain ⟨m, hm⟩ := k2; exact DataW.trod_lt m _ _ _ hm
  obtain ⟨a2, len2, cap2, rfl⟩ := okWide_slice Try.underlying22 (hval 2 22 v2 rfl rfl)
  obtain ⟨b2, H2⟩ : ∃ l, Bs W (.slice a2 len2 cap2) l := by
    obtain ⟨fuel, hf⟩ := h2
    rcases open_ints Try.underlying22 Try.underlying5 (by kernel_rfl) hf with ⟨hcs, _⟩ | ⟨x, l, c, zs, hcs, _, hl, hm, hz, _, hcell, hwz⟩
    · simp [Value.cells] at hcs
      obtain ⟨rfl, rfl, rfl⟩ := hcs
      exact ⟨[], Row.nil W⟩
    · simp [Value.cells] at hcs
      obtain ⟨rfl, rfl, rfl⟩ := hcs
      exact bs_open hl hm (by simpa using hz) hcell hwz
  clear hA0 hval0
  refine Calls.mono (AeadOwn_c l0 l1 (.slice a2 len2 cap2) b2 W hl0 hl1 H2) fun e W' ⟨v', he, hv, bel⟩ => ?_
  subst he
  subst hv
  exact ⟨_, rfl, _, _, _, [], _, [], hW', trodAll_mk1 (shut_bool Try.underlying4 _), (trodAll_cons_mk (Below.trod laidOut (by kernel_rfl) (of_decide_eq_true (by kernel_rfl)) k0 bel lt0) (trodAll_cons_mk (Below.trod laidOut (by kernel_rfl) (of_decide_eq_true (by kernel_rfl)) k1 bel lt1) (trodAll_cons_mk (Below.trod laidOut (by kernel_rfl) (of_decide_eq_true (by kernel_rfl)) k2 bel lt2) trodAll_mk0))), rfl, bel.frame _, fun h => by cases h⟩
theorem over : Rows.aeadOwnRow.holds Try.pinned (OpenSpec.ofChange Rows.aeadOwnSpec) :=
  OpenClaim.holds_of_wide 8 Try.f8 rfl rfl rfl rfl rfl rfl rfl ⟨rfl, rfl, rfl, rfl, rfl⟩ rfl rfl rfl rfl rfl (by kernel_rfl) Try.func8 (by kernel_rfl)
    (of_decide_eq_true (by kernel_rfl)) (by unfold Func.isWrapper; first | (rw [if_pos (by decide +kernel)]; kernel_rfl) | (rw [if_neg (by decide +kernel)]; exact ⟨rfl, rfl⟩))
    (fun os started H enc _ => lifted os started H enc)
end Go.Proofs.Ytlhaojpkejpgfaa.aeadOwn
namespace Go.Proofs.Ytlhaojpkejpgfaa
theorem AeadOwn_holds : Rows.AeadOwnSaid := aeadOwn.over
end Go.Proofs.Ytlhaojpkejpgfaa
