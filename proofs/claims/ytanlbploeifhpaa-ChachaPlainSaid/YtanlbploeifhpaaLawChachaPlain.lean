/-
  Noughts become the stream itself: the blocks, one behind the other.
  Its conditions: none: whatever the input, in whatever memory.
-/
import Derived.Test.YtanlbploeifhpaaRows
import Derived.Test.YtanlbploeifhpaaWalksE
import Derived.ProofKit
import Derived.OpenShut
import Derived.ShutString
import Derived.ChangeOld
set_option linter.unusedVariables false
set_option linter.unusedSimpArgs false
namespace Go.Proofs.Ytanlbploeifhpaa.chachaPlain
open Go.ChangeShapes Go.WideShapes Go.ChangeAt Go.RowKit Go.Ecal
open Go.ChangeMaps (open_string shut_string)
theorem plain_end {k n : List UInt8} {c m : Int} (hc : 0 ≤ c ∧ c + 8 < 4294967296) (hm : 0 ≤ m ∧ m ≤ 300) : decide (xo k c n (List.replicate m.toNat (0 : UInt8)) = (((((kb k (c + 0) n) ++ (kb k (c + 1) n)) ++ (kb k (c + 2) n)) ++ (kb k (c + 3) n)) ++ (kb k (c + 4) n)).take m.toNat) = true := by
  have := xo_zero k c n m.toNat hc (by omega)
  simpa using this
set_option maxHeartbeats 2000000 in
theorem ChachaPlain_c (k : List UInt8) (c : Int) (n : List UInt8) (m : Int) (w : World) (hk : k.length = 32) (hc : -9223372036854775808 ≤ c ∧ c ≤ 9223372036854775807) (hn : n.length = 12) (hm : -9223372036854775808 ≤ m ∧ m ≤ 9223372036854775807) : Ret Try.prog 6 [.agg (k.map byt).toArray, .int .i64 c, .agg (n.map byt).toArray, .int .i64 m] w fun v w' => v = .bool true ∧ Below w.heap.size w w' := by
  have hk0 := kb_len k c n
  refine ret_E Try.func6 rfl Try.ntmps6 (by simp) ?_
  refine EC_seq ?_
  refine EC_reg ?_
  refine EL_box (k.map byt) rfl rfl rfl ?_
  intro b11 w12 k13 A14 B15 z16
  have B18 : Below w.heap.size w w12 := B15
  have R17 : Bs w12 (.slice (some ⟨b11, 0, none⟩) 32 32) k := barr_row A14 (by omega) (by decide)
  refine EL_box (n.map byt) rfl rfl rfl ?_
  intro b19 w20 k21 A22 B23 z24
  have B26 : Below w.heap.size w w20 := below_full B18 B18.size B23
  have B27 : Below w12.heap.size w12 w20 := B23
  have R25 : Bs w20 (.slice (some ⟨b19, 0, none⟩) 12 12) n := barr_row A22 (by omega) (by decide)
  refine EL_val (.bool false) w20 rfl (r_assign rfl) ?_
  refine EL_nil ?_
  refine thn_n ?_
  refine EC_seq ?_
  refine EC_seq ?_
  refine EC_reg ?_
  refine EL_ret [] rfl Try.func9 rfl nm9 rfl (anchor_c w20) ?_
  rintro _ w28 ⟨rfl, B29⟩
  have B30 : Below w.heap.size w w28 := below_full B26 B26.size B29
  have B31 : Below w12.heap.size w12 w28 := below_full B27 B27.size B29
  have B32 : Below w20.heap.size w20 w28 := B29
  refine EL_val (.bool false) w28 rfl (r_dec (show (!true) = false from rfl) (r_not rfl)) ?_
  refine EL_nil ?_
  refine thn_n ?_
  refine EC_cond_false rfl ?_
  refine EC_skip ?_
  refine thn_n ?_
  refine EC_seq ?_
  refine EC_seq ?_
  refine EC_reg ?_
  refine EL_val (.int .i64 c) w28 rfl (r_move rfl) ?_
  refine EL_val (.bool (decide (c < 0))) w28 rfl (r_lss rfl rfl) ?_
  refine EL_val (.bool (decide (c < 0))) w28 rfl (r_move rfl) ?_
  refine EL_gite 19 rfl rfl rfl (.int .i64 c) rfl (fun g33 => r_move rfl) ?_
  refine EL_gite 19 rfl rfl rfl (.bool (decide (4294967287 < c))) rfl (fun g34 => r_gtr (cond_of g34 rfl) rfl) ?_
  refine EL_val (.bool ((decide (c < 0)) || (decide (4294967287 < c)))) w28 rfl (r_or rfl rfl rfl) ?_
  refine EL_val (.bool ((decide (c < 0)) || (decide (4294967287 < c)))) w28 rfl (r_move rfl) ?_
  refine EL_gite 23 rfl rfl rfl (.int .i64 m) rfl (fun g35 => r_move rfl) ?_
  refine EL_gite 23 rfl rfl rfl (.bool (decide (m < 0))) rfl (fun g36 => r_lss (cond_of g36 rfl) rfl) ?_
  refine EL_val (.bool (((decide (c < 0)) || (decide (4294967287 < c))) || (decide (m < 0)))) w28 rfl (r_or rfl rfl rfl) ?_
  refine EL_val (.bool (((decide (c < 0)) || (decide (4294967287 < c))) || (decide (m < 0)))) w28 rfl (r_move rfl) ?_
  refine EL_gite 27 rfl rfl rfl (.int .i64 m) rfl (fun g37 => r_move rfl) ?_
  refine EL_gite 27 rfl rfl rfl (.bool (decide (300 < m))) rfl (fun g38 => r_gtr (cond_of g38 rfl) rfl) ?_
  refine EL_val (.bool ((((decide (c < 0)) || (decide (4294967287 < c))) || (decide (m < 0))) || (decide (300 < m)))) w28 rfl (r_or rfl rfl rfl) ?_
  refine EL_nil ?_
  refine thn_n ?_
  refine EC_cond (t := (((decide (c < 0)) || (decide (4294967287 < c))) || (decide (m < 0))) || (decide (300 < m))) rfl (fun h39 => ?_) (fun h39 => ?_)
  · simp at h39
    refine EC_seq ?_
    refine EC_reg ?_
    refine EL_val (.bool true) w28 rfl (r_assign rfl) ?_
    refine EL_nil ?_
    refine thn_n ?_
    refine EC_ret ?_
    refine thn_r ?_
    refine fin1 Try.results6 (show _ = .bool true from rfl) ⟨_, rfl, ?_⟩
    exact ⟨rfl, B30⟩
  · simp at h39
    refine EC_skip ?_
    refine thn_n ?_
    refine EC_seq ?_
    refine EC_held (fun w' => Below w28.heap.size w28 w') (by kernel_rfl) ?_
    intro w40 B41 z42
    have B43 : Below w.heap.size w w40 := below_full B30 B30.size B41
    have B44 : Below w12.heap.size w12 w40 := below_full B31 B31.size B41
    have B45 : Below w20.heap.size w20 w40 := below_full B32 B32.size B41
    have B46 : Below w28.heap.size w28 w40 := B41
    refine EA_strong (fun w' => Below w40.heap.size w40 w') (fun _ hw => below_full B46 B46.size hw) ?_
    refine EA_take 0 rfl (by kernel_rfl) (by kernel_rfl) (by kernel_rfl) (.slice (some ⟨b11, 0, none⟩) 32 32) rfl (fun _ hw => r_sliceA rfl Try.underlying32 (by kernel_rfl)) (Below.refl _ _) ?_
    refine EA_take 1 rfl (by kernel_rfl) (by kernel_rfl) (by kernel_rfl) (.int .i64 c) rfl (fun _ hw => r_move rfl) (Below.refl _ _) ?_
    refine EA_take 2 rfl (by kernel_rfl) (by kernel_rfl) (by kernel_rfl) (.slice (some ⟨b19, 0, none⟩) 12 12) rfl (fun _ hw => r_sliceA rfl Try.underlying33 (by kernel_rfl)) (Below.refl _ _) ?_
    refine EA_take 3 rfl (by kernel_rfl) (by kernel_rfl) (by kernel_rfl) (.int .i64 m) rfl (fun _ hw => r_move rfl) (Below.refl _ _) ?_
    refine EA_one 4 rfl (by kernel_rfl) ?_
    refine EL_make w40.heap.size elB rfl rfl rfl rfl (by omega) (by omega) (by omega) (by omega) (Nat.le_refl _) ?_
    intro v47 w48 O49 B50 k51 z52
    have B53 : Below w.heap.size w w48 := below_full B43 B43.size B50
    have B54 : Below w12.heap.size w12 w48 := below_full B44 B44.size B50
    have B55 : Below w20.heap.size w20 w48 := below_full B45 B45.size B50
    have B56 : Below w28.heap.size w28 w48 := below_full B46 B46.size B50
    have B57 : Below w40.heap.size w40 w48 := B50
    have O58 := own_rep O49
    refine EL_nil ?_
    refine ⟨rfl, B57, ?_⟩
    refine EA_strong (fun w' => Below w48.heap.size w48 w') (fun _ hw => below_full B57 B57.size hw) ?_
    have L62 := xo_len k c n (List.replicate (m : Int).toNat (0 : UInt8))
    refine EA_call 5 rfl (by kernel_rfl) [.slice (some ⟨b11, 0, none⟩) 32 32, .int .i64 c, .slice (some ⟨b19, 0, none⟩) 12 12, v47] (.inl rfl) rfl Try.func12 rfl nm12 rfl (XOR_ok (.slice (some ⟨b11, 0, none⟩) 32 32) k c (.slice (some ⟨b19, 0, none⟩) 12 12) n v47 (List.replicate (m : Int).toNat (0 : UInt8)) w48 (R17.below B54) (R25.below B55) (own_row O58) (chk_of (by omega) (by omega) (by omega)) (by first | omega | (simp; done) | (simp; omega))) ?_
    rintro _ w63 ⟨p59, rfl, O60, B61⟩
    have B64 : Below w.heap.size w w63 := below_full B53 B53.size B61
    have B65 : Below w12.heap.size w12 w63 := below_full B54 B54.size B61
    have B66 : Below w20.heap.size w20 w63 := below_full B55 B55.size B61
    have B67 : Below w28.heap.size w28 w63 := below_full B56 B56.size B61
    have B68 : Below w40.heap.size w40 w63 := below_full B57 B57.size B61
    have B69 : Below w48.heap.size w48 w63 := B61
    refine ⟨B69, ?_⟩
    refine EA_strong (fun w' => Below w63.heap.size w63 w') (fun _ hw => below_full B69 B69.size hw) ?_
    refine EA_take 6 rfl (by kernel_rfl) (by kernel_rfl) (by kernel_rfl) (.tuple #[p59, .int .i64 0]) rfl (fun _ hw => r_move rfl) (Below.refl _ _) ?_
    refine EA_take 7 rfl (by kernel_rfl) (by kernel_rfl) (by kernel_rfl) p59 rfl (fun _ hw => r_extract rfl rfl) (Below.refl _ _) ?_
    refine EA_take 8 rfl (by kernel_rfl) (by kernel_rfl) (by kernel_rfl) (.int .i64 0) rfl (fun _ hw => r_extract rfl rfl) (Below.refl _ _) ?_
    refine EA_take 9 rfl (by kernel_rfl) (by kernel_rfl) (by kernel_rfl) p59 rfl (fun _ hw => r_assign rfl) (Below.refl _ _) ?_
    refine EA_take 10 rfl (by kernel_rfl) (by kernel_rfl) (by kernel_rfl) (.int .i64 0) rfl (fun _ hw => r_assign rfl) (Below.refl _ _) ?_
    refine EA_done (by kernel_rfl) ?_
    refine thn_n ?_
    refine EC_seq ?_
    refine EC_reg ?_
    refine EL_val (.slice none 0 0) w63 rfl (r_assign rfl) ?_
    refine EL_nil ?_
    refine thn_n ?_
    refine EC_seq ?_
    refine EC_seq ?_
    refine EC_reg ?_
    refine EL_val (.int .i64 0) w63 rfl (r_move rfl) ?_
    refine EL_nil ?_
    refine thn_n ?_
    refine EC_block ?_
    refine EC_for 6 ?_
    refine U_step ?_
    refine EC_seq ?_
    refine EC_reg ?_
    refine EL_val (.bool true) w63 rfl (r_dec (by decide) (r_lss rfl rfl)) ?_
    refine EL_nil ?_
    refine thn_n ?_
    refine EC_seq ?_
    refine EC_cond_true rfl ?_
    refine EC_skip ?_
    refine thn_n ?_
    refine EC_seq ?_
    refine EC_block ?_
    refine EC_seq ?_
    refine EC_reg ?_
    refine EL_val (.int .i64 0) w63 rfl (r_move rfl) ?_
    refine EL_val (.int .i64 0) w63 rfl (r_assign rfl) ?_
    refine EL_nil ?_
    refine thn_n ?_
    refine EC_seq ?_
    refine EC_held (fun w' => Below w63.heap.size w63 w') (by kernel_rfl) ?_
    intro w70 B71 z72
    have B73 : Below w.heap.size w w70 := below_full B64 B64.size B71
    have B74 : Below w12.heap.size w12 w70 := below_full B65 B65.size B71
    have B75 : Below w20.heap.size w20 w70 := below_full B66 B66.size B71
    have B76 : Below w28.heap.size w28 w70 := below_full B67 B67.size B71
    have B77 : Below w40.heap.size w40 w70 := below_full B68 B68.size B71
    have B78 : Below w48.heap.size w48 w70 := below_full B69 B69.size B71
    have B79 : Below w63.heap.size w63 w70 := B71
    refine EA_strong (fun w' => Below w70.heap.size w70 w') (fun _ hw => below_full B79 B79.size hw) ?_
    refine EA_take 0 rfl (by kernel_rfl) (by kernel_rfl) (by kernel_rfl) (.slice (some ⟨b11, 0, none⟩) 32 32) rfl (fun _ hw => r_sliceA rfl Try.underlying32 (by kernel_rfl)) (Below.refl _ _) ?_
    refine EA_take 1 rfl (by kernel_rfl) (by kernel_rfl) (by kernel_rfl) (.int .i64 c) rfl (fun _ hw => r_move rfl) (Below.refl _ _) ?_
    refine EA_take 2 rfl (by kernel_rfl) (by kernel_rfl) (by kernel_rfl) (.int .i64 0) rfl (fun _ hw => r_move rfl) (Below.refl _ _) ?_
    refine EA_take 3 rfl (by kernel_rfl) (by kernel_rfl) (by kernel_rfl) (.int .i64 (c + 0)) rfl (fun _ hw => r_addi rfl rfl (by omega)) (Below.refl _ _) ?_
    refine EA_take 4 rfl (by kernel_rfl) (by kernel_rfl) (by kernel_rfl) (.slice (some ⟨b19, 0, none⟩) 12 12) rfl (fun _ hw => r_sliceA rfl Try.underlying33 (by kernel_rfl)) (Below.refl _ _) ?_
    have L84 := kb_len k (c + 0) n
    refine EA_call 5 rfl (by kernel_rfl) [.slice (some ⟨b11, 0, none⟩) 32 32, .int .i64 (c + 0), .slice (some ⟨b19, 0, none⟩) 12 12] (.inl rfl) rfl Try.func10 rfl nm10 rfl (Block_ok (.slice (some ⟨b11, 0, none⟩) 32 32) k (c + 0) (.slice (some ⟨b19, 0, none⟩) 12 12) n w70 (R17.below B74) (R25.below B75) (chk_of (by omega) (by omega) (by omega))) ?_
    rintro _ w85 ⟨p81, rfl, O82, B83⟩
    have B86 : Below w.heap.size w w85 := below_full B73 B73.size B83
    have B87 : Below w12.heap.size w12 w85 := below_full B74 B74.size B83
    have B88 : Below w20.heap.size w20 w85 := below_full B75 B75.size B83
    have B89 : Below w28.heap.size w28 w85 := below_full B76 B76.size B83
    have B90 : Below w40.heap.size w40 w85 := below_full B77 B77.size B83
    have B91 : Below w48.heap.size w48 w85 := below_full B78 B78.size B83
    have B92 : Below w63.heap.size w63 w85 := below_full B79 B79.size B83
    have B93 : Below w70.heap.size w70 w85 := B83
    refine ⟨B93, ?_⟩
    refine EA_strong (fun w' => Below w85.heap.size w85 w') (fun _ hw => below_full B93 B93.size hw) ?_
    refine EA_take 6 rfl (by kernel_rfl) (by kernel_rfl) (by kernel_rfl) (.tuple #[p81, .int .i64 0]) rfl (fun _ hw => r_move rfl) (Below.refl _ _) ?_
    refine EA_take 7 rfl (by kernel_rfl) (by kernel_rfl) (by kernel_rfl) p81 rfl (fun _ hw => r_extract rfl rfl) (Below.refl _ _) ?_
    refine EA_take 8 rfl (by kernel_rfl) (by kernel_rfl) (by kernel_rfl) (.int .i64 0) rfl (fun _ hw => r_extract rfl rfl) (Below.refl _ _) ?_
    refine EA_take 9 rfl (by kernel_rfl) (by kernel_rfl) (by kernel_rfl) p81 rfl (fun _ hw => r_assign rfl) (Below.refl _ _) ?_
    refine EA_take 10 rfl (by kernel_rfl) (by kernel_rfl) (by kernel_rfl) (.int .i64 0) rfl (fun _ hw => r_assign rfl) (Below.refl _ _) ?_
    refine EA_done (by kernel_rfl) ?_
    refine thn_n ?_
    refine EC_seq ?_
    refine EC_seq ?_
    refine EC_reg ?_
    refine EL_val (.int .i64 0) w85 rfl (r_move rfl) ?_
    refine EL_val (.bool false) w85 rfl (r_dec (by decide) (r_neq rfl rfl)) ?_
    refine EL_nil ?_
    refine thn_n ?_
    refine EC_cond_false rfl ?_
    refine EC_skip ?_
    refine thn_n ?_
    refine EC_reg ?_
    refine EL_val (.slice none 0 0) w85 rfl (r_move rfl) ?_
    refine EL_val p81 w85 rfl (r_move rfl) ?_
    refine EL_append (v := .slice none 0 0) (xs := ([] : List UInt8).map byt) (ys := (kb k (c + 0) n).map byt) w85.heap.size elB rfl rfl rfl (by simpa using (World.ownsRow_nil _ _ _ _)) (own_row O82) (byt_one _) (by first | (simp only [List.length_map, List.length_nil]; omega) | (simp; done) | (simp; omega)) (by decide) (Nat.le_refl _) ?_
    intro v94 w95 O96 G97 A98
    have O96' := own_app0 O96
    have B99 : Below w85.heap.size w85 w95 := ⟨G97.os, G97.tape, G97.output, G97.size, fun k hk => G97.block k hk (by simp [Value.ownBlock])⟩
    have B100 : Below w.heap.size w w95 := below_full B86 B86.size B99
    have B101 : Below w12.heap.size w12 w95 := below_full B87 B87.size B99
    have B102 : Below w20.heap.size w20 w95 := below_full B88 B88.size B99
    have B103 : Below w28.heap.size w28 w95 := below_full B89 B89.size B99
    have B104 : Below w40.heap.size w40 w95 := below_full B90 B90.size B99
    have B105 : Below w48.heap.size w48 w95 := below_full B91 B91.size B99
    have B106 : Below w63.heap.size w63 w95 := below_full B92 B92.size B99
    have B107 : Below w70.heap.size w70 w95 := below_full B93 B93.size B99
    have B108 : Below w85.heap.size w85 w95 := B99
    refine EL_val v94 w95 rfl (r_assign rfl) ?_
    refine EL_nil ?_
    refine inB_n ?_
    refine thn_n ?_
    refine EC_reg ?_
    refine EL_val (.int .i64 1) w95 rfl (r_asn (by kernel_rfl) (r_add rfl rfl)) ?_
    refine EL_val (.int .i64 1) w95 rfl (r_move rfl) ?_
    refine EL_nil ?_
    refine thn_n ?_
    refine U_step ?_
    refine EC_seq ?_
    refine EC_reg ?_
    refine EL_val (.bool true) w95 rfl (r_dec (by decide) (r_lss rfl rfl)) ?_
    refine EL_nil ?_
    refine thn_n ?_
    refine EC_seq ?_
    refine EC_cond_true rfl ?_
    refine EC_skip ?_
    refine thn_n ?_
    refine EC_seq ?_
    refine EC_block ?_
    refine EC_seq ?_
    refine EC_reg ?_
    refine EL_val (.int .i64 1) w95 rfl (r_move rfl) ?_
    refine EL_val (.int .i64 1) w95 rfl (r_assign rfl) ?_
    refine EL_nil ?_
    refine thn_n ?_
    refine EC_seq ?_
    refine EC_held (fun w' => Below w95.heap.size w95 w') (by kernel_rfl) ?_
    intro w109 B110 z111
    have B112 : Below w.heap.size w w109 := below_full B100 B100.size B110
    have B113 : Below w12.heap.size w12 w109 := below_full B101 B101.size B110
    have B114 : Below w20.heap.size w20 w109 := below_full B102 B102.size B110
    have B115 : Below w28.heap.size w28 w109 := below_full B103 B103.size B110
    have B116 : Below w40.heap.size w40 w109 := below_full B104 B104.size B110
    have B117 : Below w48.heap.size w48 w109 := below_full B105 B105.size B110
    have B118 : Below w63.heap.size w63 w109 := below_full B106 B106.size B110
    have B119 : Below w70.heap.size w70 w109 := below_full B107 B107.size B110
    have B120 : Below w85.heap.size w85 w109 := below_full B108 B108.size B110
    have B121 : Below w95.heap.size w95 w109 := B110
    refine EA_strong (fun w' => Below w109.heap.size w109 w') (fun _ hw => below_full B121 B121.size hw) ?_
    refine EA_take 0 rfl (by kernel_rfl) (by kernel_rfl) (by kernel_rfl) (.slice (some ⟨b11, 0, none⟩) 32 32) rfl (fun _ hw => r_sliceA rfl Try.underlying32 (by kernel_rfl)) (Below.refl _ _) ?_
    refine EA_take 1 rfl (by kernel_rfl) (by kernel_rfl) (by kernel_rfl) (.int .i64 c) rfl (fun _ hw => r_move rfl) (Below.refl _ _) ?_
    refine EA_take 2 rfl (by kernel_rfl) (by kernel_rfl) (by kernel_rfl) (.int .i64 1) rfl (fun _ hw => r_move rfl) (Below.refl _ _) ?_
    refine EA_take 3 rfl (by kernel_rfl) (by kernel_rfl) (by kernel_rfl) (.int .i64 (c + 1)) rfl (fun _ hw => r_addi rfl rfl (by omega)) (Below.refl _ _) ?_
    refine EA_take 4 rfl (by kernel_rfl) (by kernel_rfl) (by kernel_rfl) (.slice (some ⟨b19, 0, none⟩) 12 12) rfl (fun _ hw => r_sliceA rfl Try.underlying33 (by kernel_rfl)) (Below.refl _ _) ?_
    have L126 := kb_len k (c + 1) n
    refine EA_call 5 rfl (by kernel_rfl) [.slice (some ⟨b11, 0, none⟩) 32 32, .int .i64 (c + 1), .slice (some ⟨b19, 0, none⟩) 12 12] (.inl rfl) rfl Try.func10 rfl nm10 rfl (Block_ok (.slice (some ⟨b11, 0, none⟩) 32 32) k (c + 1) (.slice (some ⟨b19, 0, none⟩) 12 12) n w109 (R17.below B113) (R25.below B114) (chk_of (by omega) (by omega) (by omega))) ?_
    rintro _ w127 ⟨p123, rfl, O124, B125⟩
    have B128 : Below w.heap.size w w127 := below_full B112 B112.size B125
    have B129 : Below w12.heap.size w12 w127 := below_full B113 B113.size B125
    have B130 : Below w20.heap.size w20 w127 := below_full B114 B114.size B125
    have B131 : Below w28.heap.size w28 w127 := below_full B115 B115.size B125
    have B132 : Below w40.heap.size w40 w127 := below_full B116 B116.size B125
    have B133 : Below w48.heap.size w48 w127 := below_full B117 B117.size B125
    have B134 : Below w63.heap.size w63 w127 := below_full B118 B118.size B125
    have B135 : Below w70.heap.size w70 w127 := below_full B119 B119.size B125
    have B136 : Below w85.heap.size w85 w127 := below_full B120 B120.size B125
    have B137 : Below w95.heap.size w95 w127 := below_full B121 B121.size B125
    have B138 : Below w109.heap.size w109 w127 := B125
    refine ⟨B138, ?_⟩
    refine EA_strong (fun w' => Below w127.heap.size w127 w') (fun _ hw => below_full B138 B138.size hw) ?_
    refine EA_take 6 rfl (by kernel_rfl) (by kernel_rfl) (by kernel_rfl) (.tuple #[p123, .int .i64 0]) rfl (fun _ hw => r_move rfl) (Below.refl _ _) ?_
    refine EA_take 7 rfl (by kernel_rfl) (by kernel_rfl) (by kernel_rfl) p123 rfl (fun _ hw => r_extract rfl rfl) (Below.refl _ _) ?_
    refine EA_take 8 rfl (by kernel_rfl) (by kernel_rfl) (by kernel_rfl) (.int .i64 0) rfl (fun _ hw => r_extract rfl rfl) (Below.refl _ _) ?_
    refine EA_take 9 rfl (by kernel_rfl) (by kernel_rfl) (by kernel_rfl) p123 rfl (fun _ hw => r_assign rfl) (Below.refl _ _) ?_
    refine EA_take 10 rfl (by kernel_rfl) (by kernel_rfl) (by kernel_rfl) (.int .i64 0) rfl (fun _ hw => r_assign rfl) (Below.refl _ _) ?_
    refine EA_done (by kernel_rfl) ?_
    refine thn_n ?_
    refine EC_seq ?_
    refine EC_seq ?_
    refine EC_reg ?_
    refine EL_val (.int .i64 0) w127 rfl (r_move rfl) ?_
    refine EL_val (.bool false) w127 rfl (r_dec (by decide) (r_neq rfl rfl)) ?_
    refine EL_nil ?_
    refine thn_n ?_
    refine EC_cond_false rfl ?_
    refine EC_skip ?_
    refine thn_n ?_
    refine EC_reg ?_
    refine EL_val v94 w127 rfl (r_move rfl) ?_
    refine EL_val p123 w127 rfl (r_move rfl) ?_
    refine EL_append (v := v94) (xs := (kb k (c + 0) n).map byt) (ys := (kb k (c + 1) n).map byt) w85.heap.size elB rfl rfl rfl (by simpa using (own_below O96' B137)) (own_row O124) (byt_one _) (by first | (simp only [List.length_map, List.length_nil]; omega) | (simp; done) | (simp; omega)) (by decide) B136.size ?_
    intro v139 w140 O141 G142 A143
    have O141' := own_app O141
    have B144 : Below w.heap.size w w140 := below_grew B128 G142 (own_below O96' B137) B86.size (B128.size)
    have B145 : Below w12.heap.size w12 w140 := below_grew B129 G142 (own_below O96' B137) B87.size (B129.size)
    have B146 : Below w20.heap.size w20 w140 := below_grew B130 G142 (own_below O96' B137) B88.size (B130.size)
    have B147 : Below w28.heap.size w28 w140 := below_grew B131 G142 (own_below O96' B137) B89.size (B131.size)
    have B148 : Below w40.heap.size w40 w140 := below_grew B132 G142 (own_below O96' B137) B90.size (B132.size)
    have B149 : Below w48.heap.size w48 w140 := below_grew B133 G142 (own_below O96' B137) B91.size (B133.size)
    have B150 : Below w63.heap.size w63 w140 := below_grew B134 G142 (own_below O96' B137) B92.size (B134.size)
    have B151 : Below w70.heap.size w70 w140 := below_grew B135 G142 (own_below O96' B137) B93.size (B135.size)
    have B152 : Below w85.heap.size w85 w140 := below_grew B136 G142 (own_below O96' B137) (Nat.le_refl _) (B136.size)
    refine EL_val v139 w140 rfl (r_assign rfl) ?_
    refine EL_nil ?_
    refine inB_n ?_
    refine thn_n ?_
    refine EC_reg ?_
    refine EL_val (.int .i64 2) w140 rfl (r_asn (by kernel_rfl) (r_add rfl rfl)) ?_
    refine EL_val (.int .i64 2) w140 rfl (r_move rfl) ?_
    refine EL_nil ?_
    refine thn_n ?_
    refine U_step ?_
    refine EC_seq ?_
    refine EC_reg ?_
    refine EL_val (.bool true) w140 rfl (r_dec (by decide) (r_lss rfl rfl)) ?_
    refine EL_nil ?_
    refine thn_n ?_
    refine EC_seq ?_
    refine EC_cond_true rfl ?_
    refine EC_skip ?_
    refine thn_n ?_
    refine EC_seq ?_
    refine EC_block ?_
    refine EC_seq ?_
    refine EC_reg ?_
    refine EL_val (.int .i64 2) w140 rfl (r_move rfl) ?_
    refine EL_val (.int .i64 2) w140 rfl (r_assign rfl) ?_
    refine EL_nil ?_
    refine thn_n ?_
    refine EC_seq ?_
    refine EC_held (fun w' => Below w140.heap.size w140 w') (by kernel_rfl) ?_
    intro w156 B157 z158
    have B159 : Below w.heap.size w w156 := below_full B144 B144.size B157
    have B160 : Below w12.heap.size w12 w156 := below_full B145 B145.size B157
    have B161 : Below w20.heap.size w20 w156 := below_full B146 B146.size B157
    have B162 : Below w28.heap.size w28 w156 := below_full B147 B147.size B157
    have B163 : Below w40.heap.size w40 w156 := below_full B148 B148.size B157
    have B164 : Below w48.heap.size w48 w156 := below_full B149 B149.size B157
    have B165 : Below w63.heap.size w63 w156 := below_full B150 B150.size B157
    have B166 : Below w70.heap.size w70 w156 := below_full B151 B151.size B157
    have B167 : Below w85.heap.size w85 w156 := below_full B152 B152.size B157
    have B168 : Below w140.heap.size w140 w156 := B157
    refine EA_strong (fun w' => Below w156.heap.size w156 w') (fun _ hw => below_full B168 B168.size hw) ?_
    refine EA_take 0 rfl (by kernel_rfl) (by kernel_rfl) (by kernel_rfl) (.slice (some ⟨b11, 0, none⟩) 32 32) rfl (fun _ hw => r_sliceA rfl Try.underlying32 (by kernel_rfl)) (Below.refl _ _) ?_
    refine EA_take 1 rfl (by kernel_rfl) (by kernel_rfl) (by kernel_rfl) (.int .i64 c) rfl (fun _ hw => r_move rfl) (Below.refl _ _) ?_
    refine EA_take 2 rfl (by kernel_rfl) (by kernel_rfl) (by kernel_rfl) (.int .i64 2) rfl (fun _ hw => r_move rfl) (Below.refl _ _) ?_
    refine EA_take 3 rfl (by kernel_rfl) (by kernel_rfl) (by kernel_rfl) (.int .i64 (c + 2)) rfl (fun _ hw => r_addi rfl rfl (by omega)) (Below.refl _ _) ?_
    refine EA_take 4 rfl (by kernel_rfl) (by kernel_rfl) (by kernel_rfl) (.slice (some ⟨b19, 0, none⟩) 12 12) rfl (fun _ hw => r_sliceA rfl Try.underlying33 (by kernel_rfl)) (Below.refl _ _) ?_
    have L173 := kb_len k (c + 2) n
    refine EA_call 5 rfl (by kernel_rfl) [.slice (some ⟨b11, 0, none⟩) 32 32, .int .i64 (c + 2), .slice (some ⟨b19, 0, none⟩) 12 12] (.inl rfl) rfl Try.func10 rfl nm10 rfl (Block_ok (.slice (some ⟨b11, 0, none⟩) 32 32) k (c + 2) (.slice (some ⟨b19, 0, none⟩) 12 12) n w156 (R17.below B160) (R25.below B161) (chk_of (by omega) (by omega) (by omega))) ?_
    rintro _ w174 ⟨p170, rfl, O171, B172⟩
    have B175 : Below w.heap.size w w174 := below_full B159 B159.size B172
    have B176 : Below w12.heap.size w12 w174 := below_full B160 B160.size B172
    have B177 : Below w20.heap.size w20 w174 := below_full B161 B161.size B172
    have B178 : Below w28.heap.size w28 w174 := below_full B162 B162.size B172
    have B179 : Below w40.heap.size w40 w174 := below_full B163 B163.size B172
    have B180 : Below w48.heap.size w48 w174 := below_full B164 B164.size B172
    have B181 : Below w63.heap.size w63 w174 := below_full B165 B165.size B172
    have B182 : Below w70.heap.size w70 w174 := below_full B166 B166.size B172
    have B183 : Below w85.heap.size w85 w174 := below_full B167 B167.size B172
    have B184 : Below w140.heap.size w140 w174 := below_full B168 B168.size B172
    have B185 : Below w156.heap.size w156 w174 := B172
    refine ⟨B185, ?_⟩
    refine EA_strong (fun w' => Below w174.heap.size w174 w') (fun _ hw => below_full B185 B185.size hw) ?_
    refine EA_take 6 rfl (by kernel_rfl) (by kernel_rfl) (by kernel_rfl) (.tuple #[p170, .int .i64 0]) rfl (fun _ hw => r_move rfl) (Below.refl _ _) ?_
    refine EA_take 7 rfl (by kernel_rfl) (by kernel_rfl) (by kernel_rfl) p170 rfl (fun _ hw => r_extract rfl rfl) (Below.refl _ _) ?_
    refine EA_take 8 rfl (by kernel_rfl) (by kernel_rfl) (by kernel_rfl) (.int .i64 0) rfl (fun _ hw => r_extract rfl rfl) (Below.refl _ _) ?_
    refine EA_take 9 rfl (by kernel_rfl) (by kernel_rfl) (by kernel_rfl) p170 rfl (fun _ hw => r_assign rfl) (Below.refl _ _) ?_
    refine EA_take 10 rfl (by kernel_rfl) (by kernel_rfl) (by kernel_rfl) (.int .i64 0) rfl (fun _ hw => r_assign rfl) (Below.refl _ _) ?_
    refine EA_done (by kernel_rfl) ?_
    refine thn_n ?_
    refine EC_seq ?_
    refine EC_seq ?_
    refine EC_reg ?_
    refine EL_val (.int .i64 0) w174 rfl (r_move rfl) ?_
    refine EL_val (.bool false) w174 rfl (r_dec (by decide) (r_neq rfl rfl)) ?_
    refine EL_nil ?_
    refine thn_n ?_
    refine EC_cond_false rfl ?_
    refine EC_skip ?_
    refine thn_n ?_
    refine EC_reg ?_
    refine EL_val v139 w174 rfl (r_move rfl) ?_
    refine EL_val p170 w174 rfl (r_move rfl) ?_
    refine EL_append (v := v139) (xs := ((kb k (c + 0) n) ++ (kb k (c + 1) n)).map byt) (ys := (kb k (c + 2) n).map byt) w85.heap.size elB rfl rfl rfl (by simpa using (own_below O141' B184)) (own_row O171) (byt_one _) (by first | (simp only [List.length_map, List.length_nil]; omega) | (simp; done) | (simp; omega)) (by decide) B183.size ?_
    intro v186 w187 O188 G189 A190
    have O188' := own_app O188
    have B191 : Below w.heap.size w w187 := below_grew B175 G189 (own_below O141' B184) B86.size (B175.size)
    have B192 : Below w12.heap.size w12 w187 := below_grew B176 G189 (own_below O141' B184) B87.size (B176.size)
    have B193 : Below w20.heap.size w20 w187 := below_grew B177 G189 (own_below O141' B184) B88.size (B177.size)
    have B194 : Below w28.heap.size w28 w187 := below_grew B178 G189 (own_below O141' B184) B89.size (B178.size)
    have B195 : Below w40.heap.size w40 w187 := below_grew B179 G189 (own_below O141' B184) B90.size (B179.size)
    have B196 : Below w48.heap.size w48 w187 := below_grew B180 G189 (own_below O141' B184) B91.size (B180.size)
    have B197 : Below w63.heap.size w63 w187 := below_grew B181 G189 (own_below O141' B184) B92.size (B181.size)
    have B198 : Below w70.heap.size w70 w187 := below_grew B182 G189 (own_below O141' B184) B93.size (B182.size)
    have B199 : Below w85.heap.size w85 w187 := below_grew B183 G189 (own_below O141' B184) (Nat.le_refl _) (B183.size)
    refine EL_val v186 w187 rfl (r_assign rfl) ?_
    refine EL_nil ?_
    refine inB_n ?_
    refine thn_n ?_
    refine EC_reg ?_
    refine EL_val (.int .i64 3) w187 rfl (r_asn (by kernel_rfl) (r_add rfl rfl)) ?_
    refine EL_val (.int .i64 3) w187 rfl (r_move rfl) ?_
    refine EL_nil ?_
    refine thn_n ?_
    refine U_step ?_
    refine EC_seq ?_
    refine EC_reg ?_
    refine EL_val (.bool true) w187 rfl (r_dec (by decide) (r_lss rfl rfl)) ?_
    refine EL_nil ?_
    refine thn_n ?_
    refine EC_seq ?_
    refine EC_cond_true rfl ?_
    refine EC_skip ?_
    refine thn_n ?_
    refine EC_seq ?_
    refine EC_block ?_
    refine EC_seq ?_
    refine EC_reg ?_
    refine EL_val (.int .i64 3) w187 rfl (r_move rfl) ?_
    refine EL_val (.int .i64 3) w187 rfl (r_assign rfl) ?_
    refine EL_nil ?_
    refine thn_n ?_
    refine EC_seq ?_
    refine EC_held (fun w' => Below w187.heap.size w187 w') (by kernel_rfl) ?_
    intro w203 B204 z205
    have B206 : Below w.heap.size w w203 := below_full B191 B191.size B204
    have B207 : Below w12.heap.size w12 w203 := below_full B192 B192.size B204
    have B208 : Below w20.heap.size w20 w203 := below_full B193 B193.size B204
    have B209 : Below w28.heap.size w28 w203 := below_full B194 B194.size B204
    have B210 : Below w40.heap.size w40 w203 := below_full B195 B195.size B204
    have B211 : Below w48.heap.size w48 w203 := below_full B196 B196.size B204
    have B212 : Below w63.heap.size w63 w203 := below_full B197 B197.size B204
    have B213 : Below w70.heap.size w70 w203 := below_full B198 B198.size B204
    have B214 : Below w85.heap.size w85 w203 := below_full B199 B199.size B204
    have B215 : Below w187.heap.size w187 w203 := B204
    refine EA_strong (fun w' => Below w203.heap.size w203 w') (fun _ hw => below_full B215 B215.size hw) ?_
    refine EA_take 0 rfl (by kernel_rfl) (by kernel_rfl) (by kernel_rfl) (.slice (some ⟨b11, 0, none⟩) 32 32) rfl (fun _ hw => r_sliceA rfl Try.underlying32 (by kernel_rfl)) (Below.refl _ _) ?_
    refine EA_take 1 rfl (by kernel_rfl) (by kernel_rfl) (by kernel_rfl) (.int .i64 c) rfl (fun _ hw => r_move rfl) (Below.refl _ _) ?_
    refine EA_take 2 rfl (by kernel_rfl) (by kernel_rfl) (by kernel_rfl) (.int .i64 3) rfl (fun _ hw => r_move rfl) (Below.refl _ _) ?_
    refine EA_take 3 rfl (by kernel_rfl) (by kernel_rfl) (by kernel_rfl) (.int .i64 (c + 3)) rfl (fun _ hw => r_addi rfl rfl (by omega)) (Below.refl _ _) ?_
    refine EA_take 4 rfl (by kernel_rfl) (by kernel_rfl) (by kernel_rfl) (.slice (some ⟨b19, 0, none⟩) 12 12) rfl (fun _ hw => r_sliceA rfl Try.underlying33 (by kernel_rfl)) (Below.refl _ _) ?_
    have L220 := kb_len k (c + 3) n
    refine EA_call 5 rfl (by kernel_rfl) [.slice (some ⟨b11, 0, none⟩) 32 32, .int .i64 (c + 3), .slice (some ⟨b19, 0, none⟩) 12 12] (.inl rfl) rfl Try.func10 rfl nm10 rfl (Block_ok (.slice (some ⟨b11, 0, none⟩) 32 32) k (c + 3) (.slice (some ⟨b19, 0, none⟩) 12 12) n w203 (R17.below B207) (R25.below B208) (chk_of (by omega) (by omega) (by omega))) ?_
    rintro _ w221 ⟨p217, rfl, O218, B219⟩
    have B222 : Below w.heap.size w w221 := below_full B206 B206.size B219
    have B223 : Below w12.heap.size w12 w221 := below_full B207 B207.size B219
    have B224 : Below w20.heap.size w20 w221 := below_full B208 B208.size B219
    have B225 : Below w28.heap.size w28 w221 := below_full B209 B209.size B219
    have B226 : Below w40.heap.size w40 w221 := below_full B210 B210.size B219
    have B227 : Below w48.heap.size w48 w221 := below_full B211 B211.size B219
    have B228 : Below w63.heap.size w63 w221 := below_full B212 B212.size B219
    have B229 : Below w70.heap.size w70 w221 := below_full B213 B213.size B219
    have B230 : Below w85.heap.size w85 w221 := below_full B214 B214.size B219
    have B231 : Below w187.heap.size w187 w221 := below_full B215 B215.size B219
    have B232 : Below w203.heap.size w203 w221 := B219
    refine ⟨B232, ?_⟩
    refine EA_strong (fun w' => Below w221.heap.size w221 w') (fun _ hw => below_full B232 B232.size hw) ?_
    refine EA_take 6 rfl (by kernel_rfl) (by kernel_rfl) (by kernel_rfl) (.tuple #[p217, .int .i64 0]) rfl (fun _ hw => r_move rfl) (Below.refl _ _) ?_
    refine EA_take 7 rfl (by kernel_rfl) (by kernel_rfl) (by kernel_rfl) p217 rfl (fun _ hw => r_extract rfl rfl) (Below.refl _ _) ?_
    refine EA_take 8 rfl (by kernel_rfl) (by kernel_rfl) (by kernel_rfl) (.int .i64 0) rfl (fun _ hw => r_extract rfl rfl) (Below.refl _ _) ?_
    refine EA_take 9 rfl (by kernel_rfl) (by kernel_rfl) (by kernel_rfl) p217 rfl (fun _ hw => r_assign rfl) (Below.refl _ _) ?_
    refine EA_take 10 rfl (by kernel_rfl) (by kernel_rfl) (by kernel_rfl) (.int .i64 0) rfl (fun _ hw => r_assign rfl) (Below.refl _ _) ?_
    refine EA_done (by kernel_rfl) ?_
    refine thn_n ?_
    refine EC_seq ?_
    refine EC_seq ?_
    refine EC_reg ?_
    refine EL_val (.int .i64 0) w221 rfl (r_move rfl) ?_
    refine EL_val (.bool false) w221 rfl (r_dec (by decide) (r_neq rfl rfl)) ?_
    refine EL_nil ?_
    refine thn_n ?_
    refine EC_cond_false rfl ?_
    refine EC_skip ?_
    refine thn_n ?_
    refine EC_reg ?_
    refine EL_val v186 w221 rfl (r_move rfl) ?_
    refine EL_val p217 w221 rfl (r_move rfl) ?_
    refine EL_append (v := v186) (xs := (((kb k (c + 0) n) ++ (kb k (c + 1) n)) ++ (kb k (c + 2) n)).map byt) (ys := (kb k (c + 3) n).map byt) w85.heap.size elB rfl rfl rfl (by simpa using (own_below O188' B231)) (own_row O218) (byt_one _) (by first | (simp only [List.length_map, List.length_nil]; omega) | (simp; done) | (simp; omega)) (by decide) B230.size ?_
    intro v233 w234 O235 G236 A237
    have O235' := own_app O235
    have B238 : Below w.heap.size w w234 := below_grew B222 G236 (own_below O188' B231) B86.size (B222.size)
    have B239 : Below w12.heap.size w12 w234 := below_grew B223 G236 (own_below O188' B231) B87.size (B223.size)
    have B240 : Below w20.heap.size w20 w234 := below_grew B224 G236 (own_below O188' B231) B88.size (B224.size)
    have B241 : Below w28.heap.size w28 w234 := below_grew B225 G236 (own_below O188' B231) B89.size (B225.size)
    have B242 : Below w40.heap.size w40 w234 := below_grew B226 G236 (own_below O188' B231) B90.size (B226.size)
    have B243 : Below w48.heap.size w48 w234 := below_grew B227 G236 (own_below O188' B231) B91.size (B227.size)
    have B244 : Below w63.heap.size w63 w234 := below_grew B228 G236 (own_below O188' B231) B92.size (B228.size)
    have B245 : Below w70.heap.size w70 w234 := below_grew B229 G236 (own_below O188' B231) B93.size (B229.size)
    have B246 : Below w85.heap.size w85 w234 := below_grew B230 G236 (own_below O188' B231) (Nat.le_refl _) (B230.size)
    refine EL_val v233 w234 rfl (r_assign rfl) ?_
    refine EL_nil ?_
    refine inB_n ?_
    refine thn_n ?_
    refine EC_reg ?_
    refine EL_val (.int .i64 4) w234 rfl (r_asn (by kernel_rfl) (r_add rfl rfl)) ?_
    refine EL_val (.int .i64 4) w234 rfl (r_move rfl) ?_
    refine EL_nil ?_
    refine thn_n ?_
    refine U_step ?_
    refine EC_seq ?_
    refine EC_reg ?_
    refine EL_val (.bool true) w234 rfl (r_dec (by decide) (r_lss rfl rfl)) ?_
    refine EL_nil ?_
    refine thn_n ?_
    refine EC_seq ?_
    refine EC_cond_true rfl ?_
    refine EC_skip ?_
    refine thn_n ?_
    refine EC_seq ?_
    refine EC_block ?_
    refine EC_seq ?_
    refine EC_reg ?_
    refine EL_val (.int .i64 4) w234 rfl (r_move rfl) ?_
    refine EL_val (.int .i64 4) w234 rfl (r_assign rfl) ?_
    refine EL_nil ?_
    refine thn_n ?_
    refine EC_seq ?_
    refine EC_held (fun w' => Below w234.heap.size w234 w') (by kernel_rfl) ?_
    intro w250 B251 z252
    have B253 : Below w.heap.size w w250 := below_full B238 B238.size B251
    have B254 : Below w12.heap.size w12 w250 := below_full B239 B239.size B251
    have B255 : Below w20.heap.size w20 w250 := below_full B240 B240.size B251
    have B256 : Below w28.heap.size w28 w250 := below_full B241 B241.size B251
    have B257 : Below w40.heap.size w40 w250 := below_full B242 B242.size B251
    have B258 : Below w48.heap.size w48 w250 := below_full B243 B243.size B251
    have B259 : Below w63.heap.size w63 w250 := below_full B244 B244.size B251
    have B260 : Below w70.heap.size w70 w250 := below_full B245 B245.size B251
    have B261 : Below w85.heap.size w85 w250 := below_full B246 B246.size B251
    have B262 : Below w234.heap.size w234 w250 := B251
    refine EA_strong (fun w' => Below w250.heap.size w250 w') (fun _ hw => below_full B262 B262.size hw) ?_
    refine EA_take 0 rfl (by kernel_rfl) (by kernel_rfl) (by kernel_rfl) (.slice (some ⟨b11, 0, none⟩) 32 32) rfl (fun _ hw => r_sliceA rfl Try.underlying32 (by kernel_rfl)) (Below.refl _ _) ?_
    refine EA_take 1 rfl (by kernel_rfl) (by kernel_rfl) (by kernel_rfl) (.int .i64 c) rfl (fun _ hw => r_move rfl) (Below.refl _ _) ?_
    refine EA_take 2 rfl (by kernel_rfl) (by kernel_rfl) (by kernel_rfl) (.int .i64 4) rfl (fun _ hw => r_move rfl) (Below.refl _ _) ?_
    refine EA_take 3 rfl (by kernel_rfl) (by kernel_rfl) (by kernel_rfl) (.int .i64 (c + 4)) rfl (fun _ hw => r_addi rfl rfl (by omega)) (Below.refl _ _) ?_
    refine EA_take 4 rfl (by kernel_rfl) (by kernel_rfl) (by kernel_rfl) (.slice (some ⟨b19, 0, none⟩) 12 12) rfl (fun _ hw => r_sliceA rfl Try.underlying33 (by kernel_rfl)) (Below.refl _ _) ?_
    have L267 := kb_len k (c + 4) n
    refine EA_call 5 rfl (by kernel_rfl) [.slice (some ⟨b11, 0, none⟩) 32 32, .int .i64 (c + 4), .slice (some ⟨b19, 0, none⟩) 12 12] (.inl rfl) rfl Try.func10 rfl nm10 rfl (Block_ok (.slice (some ⟨b11, 0, none⟩) 32 32) k (c + 4) (.slice (some ⟨b19, 0, none⟩) 12 12) n w250 (R17.below B254) (R25.below B255) (chk_of (by omega) (by omega) (by omega))) ?_
    rintro _ w268 ⟨p264, rfl, O265, B266⟩
    have B269 : Below w.heap.size w w268 := below_full B253 B253.size B266
    have B270 : Below w12.heap.size w12 w268 := below_full B254 B254.size B266
    have B271 : Below w20.heap.size w20 w268 := below_full B255 B255.size B266
    have B272 : Below w28.heap.size w28 w268 := below_full B256 B256.size B266
    have B273 : Below w40.heap.size w40 w268 := below_full B257 B257.size B266
    have B274 : Below w48.heap.size w48 w268 := below_full B258 B258.size B266
    have B275 : Below w63.heap.size w63 w268 := below_full B259 B259.size B266
    have B276 : Below w70.heap.size w70 w268 := below_full B260 B260.size B266
    have B277 : Below w85.heap.size w85 w268 := below_full B261 B261.size B266
    have B278 : Below w234.heap.size w234 w268 := below_full B262 B262.size B266
    have B279 : Below w250.heap.size w250 w268 := B266
    refine ⟨B279, ?_⟩
    refine EA_strong (fun w' => Below w268.heap.size w268 w') (fun _ hw => below_full B279 B279.size hw) ?_
    refine EA_take 6 rfl (by kernel_rfl) (by kernel_rfl) (by kernel_rfl) (.tuple #[p264, .int .i64 0]) rfl (fun _ hw => r_move rfl) (Below.refl _ _) ?_
    refine EA_take 7 rfl (by kernel_rfl) (by kernel_rfl) (by kernel_rfl) p264 rfl (fun _ hw => r_extract rfl rfl) (Below.refl _ _) ?_
    refine EA_take 8 rfl (by kernel_rfl) (by kernel_rfl) (by kernel_rfl) (.int .i64 0) rfl (fun _ hw => r_extract rfl rfl) (Below.refl _ _) ?_
    refine EA_take 9 rfl (by kernel_rfl) (by kernel_rfl) (by kernel_rfl) p264 rfl (fun _ hw => r_assign rfl) (Below.refl _ _) ?_
    refine EA_take 10 rfl (by kernel_rfl) (by kernel_rfl) (by kernel_rfl) (.int .i64 0) rfl (fun _ hw => r_assign rfl) (Below.refl _ _) ?_
    refine EA_done (by kernel_rfl) ?_
    refine thn_n ?_
    refine EC_seq ?_
    refine EC_seq ?_
    refine EC_reg ?_
    refine EL_val (.int .i64 0) w268 rfl (r_move rfl) ?_
    refine EL_val (.bool false) w268 rfl (r_dec (by decide) (r_neq rfl rfl)) ?_
    refine EL_nil ?_
    refine thn_n ?_
    refine EC_cond_false rfl ?_
    refine EC_skip ?_
    refine thn_n ?_
    refine EC_reg ?_
    refine EL_val v233 w268 rfl (r_move rfl) ?_
    refine EL_val p264 w268 rfl (r_move rfl) ?_
    refine EL_append (v := v233) (xs := ((((kb k (c + 0) n) ++ (kb k (c + 1) n)) ++ (kb k (c + 2) n)) ++ (kb k (c + 3) n)).map byt) (ys := (kb k (c + 4) n).map byt) w85.heap.size elB rfl rfl rfl (by simpa using (own_below O235' B278)) (own_row O265) (byt_one _) (by first | (simp only [List.length_map, List.length_nil]; omega) | (simp; done) | (simp; omega)) (by decide) B277.size ?_
    intro v280 w281 O282 G283 A284
    have O282' := own_app O282
    have B285 : Below w.heap.size w w281 := below_grew B269 G283 (own_below O235' B278) B86.size (B269.size)
    have B286 : Below w12.heap.size w12 w281 := below_grew B270 G283 (own_below O235' B278) B87.size (B270.size)
    have B287 : Below w20.heap.size w20 w281 := below_grew B271 G283 (own_below O235' B278) B88.size (B271.size)
    have B288 : Below w28.heap.size w28 w281 := below_grew B272 G283 (own_below O235' B278) B89.size (B272.size)
    have B289 : Below w40.heap.size w40 w281 := below_grew B273 G283 (own_below O235' B278) B90.size (B273.size)
    have B290 : Below w48.heap.size w48 w281 := below_grew B274 G283 (own_below O235' B278) B91.size (B274.size)
    have B291 : Below w63.heap.size w63 w281 := below_grew B275 G283 (own_below O235' B278) B92.size (B275.size)
    have B292 : Below w70.heap.size w70 w281 := below_grew B276 G283 (own_below O235' B278) B93.size (B276.size)
    have B293 : Below w85.heap.size w85 w281 := below_grew B277 G283 (own_below O235' B278) (Nat.le_refl _) (B277.size)
    refine EL_val v280 w281 rfl (r_assign rfl) ?_
    refine EL_nil ?_
    refine inB_n ?_
    refine thn_n ?_
    refine EC_reg ?_
    refine EL_val (.int .i64 5) w281 rfl (r_asn (by kernel_rfl) (r_add rfl rfl)) ?_
    refine EL_val (.int .i64 5) w281 rfl (r_move rfl) ?_
    refine EL_nil ?_
    refine thn_n ?_
    refine U_step ?_
    refine EC_seq ?_
    refine EC_reg ?_
    refine EL_val (.bool false) w281 rfl (r_dec (by decide) (r_lss rfl rfl)) ?_
    refine EL_nil ?_
    refine thn_n ?_
    refine EC_seq ?_
    refine EC_cond_false rfl ?_
    refine EC_exit ?_
    refine thn_x ?_
    refine thn_x ?_
    refine inB_hit ?_
    refine thn_n ?_
    refine EC_seq ?_
    refine EC_held (fun w' => Below w281.heap.size w281 w') (by kernel_rfl) ?_
    intro w297 B298 z299
    have B300 : Below w.heap.size w w297 := below_full B285 B285.size B298
    have B301 : Below w12.heap.size w12 w297 := below_full B286 B286.size B298
    have B302 : Below w20.heap.size w20 w297 := below_full B287 B287.size B298
    have B303 : Below w28.heap.size w28 w297 := below_full B288 B288.size B298
    have B304 : Below w40.heap.size w40 w297 := below_full B289 B289.size B298
    have B305 : Below w48.heap.size w48 w297 := below_full B290 B290.size B298
    have B306 : Below w63.heap.size w63 w297 := below_full B291 B291.size B298
    have B307 : Below w70.heap.size w70 w297 := below_full B292 B292.size B298
    have B308 : Below w85.heap.size w85 w297 := below_full B293 B293.size B298
    have B309 : Below w281.heap.size w281 w297 := B298
    refine EA_strong (fun w' => Below w297.heap.size w297 w') (fun _ hw => below_full B309 B309.size hw) ?_
    refine EA_take 0 rfl (by kernel_rfl) (by kernel_rfl) (by kernel_rfl) (.int .i64 0) rfl (fun _ hw => r_move rfl) (Below.refl _ _) ?_
    refine EA_take 1 rfl (by kernel_rfl) (by kernel_rfl) (by kernel_rfl) (.bool true) rfl (fun _ hw => r_dec (by decide) (r_eql rfl rfl)) (Below.refl _ _) ?_
    refine EA_take 2 rfl (by kernel_rfl) (by kernel_rfl) (by kernel_rfl) (.bool true) rfl (fun _ hw => r_move rfl) (Below.refl _ _) ?_
    refine EA_gtake 3 rfl (by kernel_rfl) (by kernel_rfl) (by kernel_rfl) 60 rfl rfl rfl rfl p59 rfl (fun _ hw => r_move rfl) (Below.refl _ _) ?_
    refine EA_gtake 4 rfl (by kernel_rfl) (by kernel_rfl) (by kernel_rfl) 60 rfl rfl rfl rfl (.string (str (xo k c n (List.replicate (m : Int).toNat (0 : UInt8))))) rfl (fun _ hw => r_str rfl (((own_row O60).below B306).below hw) Try.underlying22 Try.underlying5 Try.underlying9) (Below.refl _ _) ?_
    refine EA_gtake 5 rfl (by kernel_rfl) (by kernel_rfl) (by kernel_rfl) 60 rfl rfl rfl rfl v280 rfl (fun _ hw => r_move rfl) (Below.refl _ _) ?_
    refine EA_gtake 6 rfl (by kernel_rfl) (by kernel_rfl) (by kernel_rfl) 60 rfl rfl rfl rfl (.int .i64 m) rfl (fun _ hw => r_move rfl) (Below.refl _ _) ?_
    refine EA_gtake 7 rfl (by kernel_rfl) (by kernel_rfl) (by kernel_rfl) 60 rfl rfl rfl rfl (cutV v280 0 ((m : Int).toNat)) rfl (fun _ hw => r_slice rfl (((own_row O282').below B309).below hw) Try.underlying22 (by kernel_rfl) 0 ((m : Int).toNat) (by first | omega | (simp; omega) | simp) (by first | omega | (simp; omega) | simp) (.inl ⟨rfl, rfl⟩) (.inr ⟨_, _, rfl, (show _ = Value.int .i64 ((m : Int).toNat : Int) from by rw [Int.toNat_of_nonneg (by omega)]; exact rfl)⟩)) (Below.refl _ _) ?_
    have R310 : Bs w297 (cutV v280 0 ((m : Int).toNat)) ((((((kb k (c + 0) n) ++ (kb k (c + 1) n)) ++ (kb k (c + 2) n)) ++ (kb k (c + 3) n)) ++ (kb k (c + 4) n)).take ((m : Int).toNat)) := Bs.upto ((own_row O282').below B309) ((m : Int).toNat) (by first | omega | (simp; omega) | simp)
    have L311 : ((((((kb k (c + 0) n) ++ (kb k (c + 1) n)) ++ (kb k (c + 2) n)) ++ (kb k (c + 3) n)) ++ (kb k (c + 4) n)).take ((m : Int).toNat)).length = ((m : Int).toNat) - 0 := by first | (simp; done) | (simp; omega)
    refine EA_gtake 8 rfl (by kernel_rfl) (by kernel_rfl) (by kernel_rfl) 60 rfl rfl rfl rfl (.string (str ((((((kb k (c + 0) n) ++ (kb k (c + 1) n)) ++ (kb k (c + 2) n)) ++ (kb k (c + 3) n)) ++ (kb k (c + 4) n)).take ((m : Int).toNat)))) rfl (fun _ hw => r_str rfl (R310.below hw) Try.underlying22 Try.underlying5 Try.underlying9) (Below.refl _ _) ?_
    refine EA_gtake 9 rfl (by kernel_rfl) (by kernel_rfl) (by kernel_rfl) 60 rfl rfl rfl rfl (.bool true) rfl (fun _ hw => r_dec (show (decide ((xo k c n (List.replicate (m : Int).toNat (0 : UInt8))) = ((((((kb k (c + 0) n) ++ (kb k (c + 1) n)) ++ (kb k (c + 2) n)) ++ (kb k (c + 3) n)) ++ (kb k (c + 4) n)).take ((m : Int).toNat)))) = true from plain_end (by omega) (by omega)) (r_eqls rfl rfl)) (Below.refl _ _) ?_
    refine EA_take 10 rfl (by kernel_rfl) (by kernel_rfl) (by kernel_rfl) (.bool true) rfl (fun _ hw => r_pickT rfl rfl) (Below.refl _ _) ?_
    refine EA_take 11 rfl (by kernel_rfl) (by kernel_rfl) (by kernel_rfl) (.bool true) rfl (fun _ hw => r_assign rfl) (Below.refl _ _) ?_
    refine EA_done (by kernel_rfl) ?_
    refine thn_n ?_
    refine EC_ret ?_
    refine fin1 Try.results6 (show _ = .bool true from rfl) ⟨_, rfl, ?_⟩
    exact ⟨rfl, B300⟩
theorem own : ownKnob Try.prog.godebug = none := by kernel_rfl
theorem laidOut : laidOutB Try.prog = true := by kernel_rfl
set_option maxRecDepth 100000 in
theorem lifted (os : Os) (started : os.Started) (H : Type) (enc : TypeId × Value → H) :
    ReturnsInHanded {} Try.checked os 6 .any (Rows.chachaPlainSpec.pre6 enc Try.prog Try.f6 Rows.chachaPlainRow.domain false) (Rows.chachaPlainSpec.post enc Try.prog Try.f6 false true false false) := by
  refine returnsInHanded_of_change (C := Try.checked) own started (by kernel_rfl) Try.func6
    (ChangeSpec.witness6 (enc := enc) (C := Try.checked) false ⟨#[], #[.agg #[.int .u8 0, .int .u8 0, .int .u8 0, .int .u8 0, .int .u8 0, .int .u8 0, .int .u8 0, .int .u8 0, .int .u8 0, .int .u8 0, .int .u8 0, .int .u8 0, .int .u8 0, .int .u8 0, .int .u8 0, .int .u8 0, .int .u8 0, .int .u8 0, .int .u8 0, .int .u8 0, .int .u8 0, .int .u8 0, .int .u8 0, .int .u8 0, .int .u8 0, .int .u8 0, .int .u8 0, .int .u8 0, .int .u8 0, .int .u8 0, .int .u8 0, .int .u8 0], .int .i64 0, .agg #[.int .u8 0, .int .u8 0, .int .u8 0, .int .u8 0, .int .u8 0, .int .u8 0, .int .u8 0, .int .u8 0, .int .u8 0, .int .u8 0, .int .u8 0, .int .u8 0], .int .i64 0], []⟩ 8 (by kernel_rfl) (by kernel_rfl) (by kernel_rfl) (by kernel_rfl)) ?_
  intro W base args ds gs before hval0 hW hcnd _
  have hval : ∀ (j : Nat) t v, Try.f6.params[j]? = some t → args[j]? = some v → Value.okWide Try.prog W .any base t v := hval0
  have hW' := hW
  obtain ⟨p, q, hA0, hV, rfl, hfz, hnd⟩ := hW
  have hA : DataW.TrodAll enc Try.prog W 0 (fun _ => true) true Try.f6.params.toList args.toList ds p := hA0
  rw [Try.params6] at hA hval
  obtain ⟨v0, vs0, d0, ds0, p0, q0, hargs, rfl, rfl, h0, r0⟩ := trodAll_cons hA
  obtain ⟨v1, vs1, d1, ds1, p1, q1, rfl, rfl, rfl, h1, r1⟩ := trodAll_cons r0
  obtain ⟨v2, vs2, d2, ds2, p2, q2, rfl, rfl, rfl, h2, r2⟩ := trodAll_cons r1
  obtain ⟨v3, vs3, d3, ds3, p3, q3, rfl, rfl, rfl, h3, r3⟩ := trodAll_cons r2
  obtain ⟨rfl, rfl, rfl⟩ := trodAll_nil r3
  obtain rfl : args = #[v0, v1, v2, v3] := by cases args; simp_all
  obtain ⟨rfl, rfl⟩ := trodVars_none hV
  have k0 := h0
  have lt0 : ∀ x ∈ p0, x.block < W.heap.size := by obtain ⟨m, hm⟩ := k0; exact DataW.trod_lt m _ _ _ hm
  obtain ⟨l0, hl0, rfl⟩ := arr_open (n := 32) Try.underlying32 Try.underlying5 (by kernel_rfl) (by kernel_rfl) (hval 0 32 v0 rfl rfl) h0
  have k1 := h1
  have lt1 : ∀ x ∈ p1, x.block < W.heap.size := by obtain ⟨m, hm⟩ := k1; exact DataW.trod_lt m _ _ _ hm
  obtain ⟨a1, rfl, rfl, rfl, w1⟩ := open_int Try.underlying3 (hval 1 3 v1 rfl rfl) h1
  have k2 := h2
  have lt2 : ∀ x ∈ p2, x.block < W.heap.size := by obtain ⟨m, hm⟩ := k2; exact DataW.trod_lt m _ _ _ hm
  obtain ⟨l2, hl2, rfl⟩ := arr_open (n := 12) Try.underlying33 Try.underlying5 (by kernel_rfl) (by kernel_rfl) (hval 2 33 v2 rfl rfl) h2
  have k3 := h3
  have lt3 : ∀ x ∈ p3, x.block < W.heap.size := by obtain ⟨m, hm⟩ := k3; exact DataW.trod_lt m _ _ _ hm
  obtain ⟨a3, rfl, rfl, rfl, w3⟩ := open_int Try.underlying3 (hval 3 3 v3 rfl rfl) h3
  clear hA0 hval0
  refine Calls.mono (ChachaPlain_c l0 a1 l2 a3 W hl0 (rng_i64 w1) hl2 (rng_i64 w3)) fun e W' ⟨v', he, hv, bel⟩ => ?_
  subst he
  subst hv
  exact ⟨_, rfl, _, _, _, [], _, [], hW', trodAll_mk1 (shut_bool Try.underlying4 _), (trodAll_cons_mk (Below.trod laidOut (by kernel_rfl) (of_decide_eq_true (by kernel_rfl)) k0 bel lt0) (trodAll_cons_mk (Below.trod laidOut (by kernel_rfl) (of_decide_eq_true (by kernel_rfl)) k1 bel lt1) (trodAll_cons_mk (Below.trod laidOut (by kernel_rfl) (of_decide_eq_true (by kernel_rfl)) k2 bel lt2) (trodAll_cons_mk (Below.trod laidOut (by kernel_rfl) (of_decide_eq_true (by kernel_rfl)) k3 bel lt3) trodAll_mk0)))), rfl, bel.frame _, fun h => by cases h⟩
theorem over : Rows.chachaPlainRow.holds Try.pinned (OpenSpec.ofChange Rows.chachaPlainSpec) :=
  OpenClaim.holds_of_wide 6 Try.f6 rfl rfl rfl rfl rfl rfl rfl ⟨rfl, rfl, rfl, rfl, rfl⟩ rfl rfl rfl rfl rfl (by kernel_rfl) Try.func6 (by kernel_rfl)
    (of_decide_eq_true (by kernel_rfl)) (by unfold Func.isWrapper; first | (rw [if_pos (by decide +kernel)]; kernel_rfl) | (rw [if_neg (by decide +kernel)]; exact ⟨rfl, rfl⟩))
    (fun os started H enc _ => lifted os started H enc)
end Go.Proofs.Ytanlbploeifhpaa.chachaPlain
namespace Go.Proofs.Ytanlbploeifhpaa
theorem ChachaPlain_holds : Rows.ChachaPlainSaid := chachaPlain.over
end Go.Proofs.Ytanlbploeifhpaa
