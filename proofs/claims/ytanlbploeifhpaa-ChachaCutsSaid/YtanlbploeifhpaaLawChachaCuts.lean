/-
  A text that is cut at a block's end is xored in two parts, the second one from the next counter on, behind the greatest from 0.
  Its conditions: none: whatever the input, in whatever memory.
-/
import Derived.Test.YtanlbploeifhpaaRows
import Derived.Test.YtanlbploeifhpaaWalksE
import Derived.ProofKit
import Derived.OpenShut
import Derived.ShutString
import Derived.ChangeOld
set_option linter.unusedVariables false
set_option linter.unusedSimpArgs false
namespace Go.Proofs.Ytanlbploeifhpaa.chachaCuts
open Go.ChangeShapes Go.WideShapes Go.ChangeAt Go.RowKit Go.Ecal
open Go.ChangeMaps (open_string shut_string)
theorem cut_end {k n t : List UInt8} {c a : Int} (h0 : 0 ≤ a) (h1 : 64 * a ≤ (t.length : Int)) : decide (xo k c n t = xo k c n (t.take (64 * a).toNat) ++ xo k ((c + a) % 4294967296) n (t.drop (64 * a).toNat)) = true := by
  have := xo_cut k c n t a.toNat (by omega)
  rw [Int.toNat_of_nonneg h0, show 64 * a.toNat = (64 * a).toNat from by omega] at this
  simpa using this
set_option maxHeartbeats 2000000 in
theorem ChachaCuts_c (k : List UInt8) (c : Int) (n : List UInt8) (v2 : Value) (t : List UInt8) (at1 : Int) (w : World) (hk : k.length = 32) (hc : -9223372036854775808 ≤ c ∧ c ≤ 9223372036854775807) (hn : n.length = 12) (H2 : Bs w v2 t) (ha : -9223372036854775808 ≤ at1 ∧ at1 ≤ 9223372036854775807) : Ret Try.prog 5 [.agg (k.map byt).toArray, .int .i64 c, .agg (n.map byt).toArray, v2, .int .i64 at1] w fun v w' => v = .bool true ∧ Below w.heap.size w w' := by
  refine ret_E Try.func5 rfl Try.ntmps5 (by simp) ?_
  refine EC_seq ?_
  refine EC_reg ?_
  refine EL_box (k.map byt) rfl rfl rfl ?_
  intro b11 w12 k13 A14 B15 z16
  have B18 : Below w.heap.size w w12 := B15
  have R17 : Bs w12 (.slice (some ⟨b11, 0, none⟩) 32 32) k := barr_row A14 (by omega) (by decide)
  refine EL_box (n.map byt) rfl rfl rfl ?_
  intro b19 w20 k21 A22 B23 z24
  have B26 : Below w.heap.size w w20 := below_full B18 B18.size B23
  have B27 : Below w12.heap.size w12 w20 := B23
  have R25 : Bs w20 (.slice (some ⟨b19, 0, none⟩) 12 12) n := barr_row A22 (by omega) (by decide)
  refine EL_val (.bool false) w20 rfl (r_assign rfl) ?_
  refine EL_nil ?_
  refine thn_n ?_
  refine EC_seq ?_
  refine EC_seq ?_
  refine EC_reg ?_
  refine EL_ret [] rfl Try.func9 rfl nm9 rfl (anchor_c w20) ?_
  rintro _ w28 ⟨rfl, B29⟩
  have B30 : Below w.heap.size w w28 := below_full B26 B26.size B29
  have B31 : Below w12.heap.size w12 w28 := below_full B27 B27.size B29
  have B32 : Below w20.heap.size w20 w28 := B29
  refine EL_val (.bool false) w28 rfl (r_dec (show (!true) = false from rfl) (r_not rfl)) ?_
  refine EL_nil ?_
  refine thn_n ?_
  refine EC_cond_false rfl ?_
  refine EC_skip ?_
  refine thn_n ?_
  refine EC_seq ?_
  refine EC_seq ?_
  refine EC_reg ?_
  refine EL_val v2 w28 rfl (r_move rfl) ?_
  refine EL_val (.int .i64 (t.length : Int)) w28 rfl (lenB (r_len rfl (H2.below B30) Try.underlying22)) ?_
  refine EL_val (.bool (decide (400 < (t.length : Int)))) w28 rfl (r_gtr rfl rfl) ?_
  refine EL_val (.bool (decide (400 < (t.length : Int)))) w28 rfl (r_move rfl) ?_
  refine EL_gite 22 rfl rfl rfl (.int .i64 c) rfl (fun g33 => r_move rfl) ?_
  refine EL_gite 22 rfl rfl rfl (.bool (decide (c < 0))) rfl (fun g34 => r_lss (cond_of g34 rfl) rfl) ?_
  refine EL_val (.bool ((decide (400 < (t.length : Int))) || (decide (c < 0)))) w28 rfl (r_or rfl rfl rfl) ?_
  refine EL_val (.bool ((decide (400 < (t.length : Int))) || (decide (c < 0)))) w28 rfl (r_move rfl) ?_
  refine EL_gite 26 rfl rfl rfl (.int .i64 c) rfl (fun g35 => r_move rfl) ?_
  refine EL_gite 26 rfl rfl rfl (.bool (decide (4294967295 < c))) rfl (fun g36 => r_gtr (cond_of g36 rfl) rfl) ?_
  refine EL_val (.bool (((decide (400 < (t.length : Int))) || (decide (c < 0))) || (decide (4294967295 < c)))) w28 rfl (r_or rfl rfl rfl) ?_
  refine EL_val (.bool (((decide (400 < (t.length : Int))) || (decide (c < 0))) || (decide (4294967295 < c)))) w28 rfl (r_move rfl) ?_
  refine EL_gite 30 rfl rfl rfl (.int .i64 at1) rfl (fun g37 => r_move rfl) ?_
  refine EL_gite 30 rfl rfl rfl (.bool (decide (at1 < 0))) rfl (fun g38 => r_lss (cond_of g38 rfl) rfl) ?_
  refine EL_val (.bool ((((decide (400 < (t.length : Int))) || (decide (c < 0))) || (decide (4294967295 < c))) || (decide (at1 < 0)))) w28 rfl (r_or rfl rfl rfl) ?_
  refine EL_val (.bool ((((decide (400 < (t.length : Int))) || (decide (c < 0))) || (decide (4294967295 < c))) || (decide (at1 < 0)))) w28 rfl (r_move rfl) ?_
  refine EL_gite 34 rfl rfl rfl (.int .i64 at1) rfl (fun g39 => r_move rfl) ?_
  refine EL_gite 34 rfl rfl rfl (.bool (decide (6 < at1))) rfl (fun g40 => r_gtr (cond_of g40 rfl) rfl) ?_
  refine EL_val (.bool (((((decide (400 < (t.length : Int))) || (decide (c < 0))) || (decide (4294967295 < c))) || (decide (at1 < 0))) || (decide (6 < at1)))) w28 rfl (r_or rfl rfl rfl) ?_
  refine EL_val (.bool (((((decide (400 < (t.length : Int))) || (decide (c < 0))) || (decide (4294967295 < c))) || (decide (at1 < 0))) || (decide (6 < at1)))) w28 rfl (r_move rfl) ?_
  refine EL_gite 38 rfl rfl rfl (.int .i64 at1) rfl (fun g41 => r_move rfl) ?_
  refine EL_gite 38 rfl rfl rfl (.int .i64 (64 * at1)) rfl (fun g42 => r_muli rfl (cond_of g42 rfl) (by first | omega | (simp at g42; omega))) ?_
  refine EL_gite 38 rfl rfl rfl v2 rfl (fun g43 => r_move rfl) ?_
  refine EL_gite 38 rfl rfl rfl (.int .i64 (t.length : Int)) rfl (fun g44 => lenB (r_len (cond_of g44 rfl) (H2.below B30) Try.underlying22)) ?_
  refine EL_gite 38 rfl rfl rfl (.bool (decide ((t.length : Int) < (64 * at1)))) rfl (fun g45 => r_gtr (cond_of g45 rfl) (cond_of g45 rfl)) ?_
  refine EL_val (.bool ((((((decide (400 < (t.length : Int))) || (decide (c < 0))) || (decide (4294967295 < c))) || (decide (at1 < 0))) || (decide (6 < at1))) || (decide ((t.length : Int) < (64 * at1))))) w28 rfl (r_or rfl rfl rfl) ?_
  refine EL_nil ?_
  refine thn_n ?_
  refine EC_cond (t := (((((decide (400 < (t.length : Int))) || (decide (c < 0))) || (decide (4294967295 < c))) || (decide (at1 < 0))) || (decide (6 < at1))) || (decide ((t.length : Int) < (64 * at1)))) rfl (fun h46 => ?_) (fun h46 => ?_)
  · simp at h46
    refine EC_seq ?_
    refine EC_reg ?_
    refine EL_val (.bool true) w28 rfl (r_assign rfl) ?_
    refine EL_nil ?_
    refine thn_n ?_
    refine EC_ret ?_
    refine thn_r ?_
    refine fin1 Try.results5 (show _ = .bool true from rfl) ⟨_, rfl, ?_⟩
    exact ⟨rfl, B30⟩
  · simp at h46
    refine EC_skip ?_
    refine thn_n ?_
    refine EC_seq ?_
    refine EC_held (fun w' => Below w28.heap.size w28 w') (by kernel_rfl) ?_
    intro w47 B48 z49
    have B50 : Below w.heap.size w w47 := below_full B30 B30.size B48
    have B51 : Below w12.heap.size w12 w47 := below_full B31 B31.size B48
    have B52 : Below w20.heap.size w20 w47 := below_full B32 B32.size B48
    have B53 : Below w28.heap.size w28 w47 := B48
    refine EA_strong (fun w' => Below w47.heap.size w47 w') (fun _ hw => below_full B53 B53.size hw) ?_
    refine EA_take 0 rfl (by kernel_rfl) (by kernel_rfl) (by kernel_rfl) (.slice (some ⟨b11, 0, none⟩) 32 32) rfl (fun _ hw => r_sliceA rfl Try.underlying32 (by kernel_rfl)) (Below.refl _ _) ?_
    refine EA_take 1 rfl (by kernel_rfl) (by kernel_rfl) (by kernel_rfl) (.int .i64 c) rfl (fun _ hw => r_move rfl) (Below.refl _ _) ?_
    refine EA_take 2 rfl (by kernel_rfl) (by kernel_rfl) (by kernel_rfl) (.slice (some ⟨b19, 0, none⟩) 12 12) rfl (fun _ hw => r_sliceA rfl Try.underlying33 (by kernel_rfl)) (Below.refl _ _) ?_
    refine EA_take 3 rfl (by kernel_rfl) (by kernel_rfl) (by kernel_rfl) v2 rfl (fun _ hw => r_move rfl) (Below.refl _ _) ?_
    have L57 := xo_len k c n t
    refine EA_call 4 rfl (by kernel_rfl) [.slice (some ⟨b11, 0, none⟩) 32 32, .int .i64 c, .slice (some ⟨b19, 0, none⟩) 12 12, v2] (.inl rfl) rfl Try.func12 rfl nm12 rfl (XOR_ok (.slice (some ⟨b11, 0, none⟩) 32 32) k c (.slice (some ⟨b19, 0, none⟩) 12 12) n v2 t w47 (R17.below B51) (R25.below B52) (H2.below B50) (chk_of (by omega) (by omega) (by omega)) (by first | omega | (simp; done) | (simp; omega))) ?_
    rintro _ w58 ⟨p54, rfl, O55, B56⟩
    have B59 : Below w.heap.size w w58 := below_full B50 B50.size B56
    have B60 : Below w12.heap.size w12 w58 := below_full B51 B51.size B56
    have B61 : Below w20.heap.size w20 w58 := below_full B52 B52.size B56
    have B62 : Below w28.heap.size w28 w58 := below_full B53 B53.size B56
    have B63 : Below w47.heap.size w47 w58 := B56
    refine ⟨B63, ?_⟩
    refine EA_strong (fun w' => Below w58.heap.size w58 w') (fun _ hw => below_full B63 B63.size hw) ?_
    refine EA_take 5 rfl (by kernel_rfl) (by kernel_rfl) (by kernel_rfl) (.tuple #[p54, .int .i64 0]) rfl (fun _ hw => r_move rfl) (Below.refl _ _) ?_
    refine EA_take 6 rfl (by kernel_rfl) (by kernel_rfl) (by kernel_rfl) p54 rfl (fun _ hw => r_extract rfl rfl) (Below.refl _ _) ?_
    refine EA_take 7 rfl (by kernel_rfl) (by kernel_rfl) (by kernel_rfl) (.int .i64 0) rfl (fun _ hw => r_extract rfl rfl) (Below.refl _ _) ?_
    refine EA_take 8 rfl (by kernel_rfl) (by kernel_rfl) (by kernel_rfl) p54 rfl (fun _ hw => r_assign rfl) (Below.refl _ _) ?_
    refine EA_take 9 rfl (by kernel_rfl) (by kernel_rfl) (by kernel_rfl) (.int .i64 0) rfl (fun _ hw => r_assign rfl) (Below.refl _ _) ?_
    refine EA_done (by kernel_rfl) ?_
    refine thn_n ?_
    refine EC_seq ?_
    refine EC_held (fun w' => Below w58.heap.size w58 w') (by kernel_rfl) ?_
    intro w64 B65 z66
    have B67 : Below w.heap.size w w64 := below_full B59 B59.size B65
    have B68 : Below w12.heap.size w12 w64 := below_full B60 B60.size B65
    have B69 : Below w20.heap.size w20 w64 := below_full B61 B61.size B65
    have B70 : Below w28.heap.size w28 w64 := below_full B62 B62.size B65
    have B71 : Below w47.heap.size w47 w64 := below_full B63 B63.size B65
    have B72 : Below w58.heap.size w58 w64 := B65
    refine EA_strong (fun w' => Below w64.heap.size w64 w') (fun _ hw => below_full B72 B72.size hw) ?_
    refine EA_take 0 rfl (by kernel_rfl) (by kernel_rfl) (by kernel_rfl) (.slice (some ⟨b11, 0, none⟩) 32 32) rfl (fun _ hw => r_sliceA rfl Try.underlying32 (by kernel_rfl)) (Below.refl _ _) ?_
    refine EA_take 1 rfl (by kernel_rfl) (by kernel_rfl) (by kernel_rfl) (.int .i64 c) rfl (fun _ hw => r_move rfl) (Below.refl _ _) ?_
    refine EA_take 2 rfl (by kernel_rfl) (by kernel_rfl) (by kernel_rfl) (.slice (some ⟨b19, 0, none⟩) 12 12) rfl (fun _ hw => r_sliceA rfl Try.underlying33 (by kernel_rfl)) (Below.refl _ _) ?_
    refine EA_take 3 rfl (by kernel_rfl) (by kernel_rfl) (by kernel_rfl) v2 rfl (fun _ hw => r_move rfl) (Below.refl _ _) ?_
    refine EA_take 4 rfl (by kernel_rfl) (by kernel_rfl) (by kernel_rfl) (.int .i64 at1) rfl (fun _ hw => r_move rfl) (Below.refl _ _) ?_
    refine EA_take 5 rfl (by kernel_rfl) (by kernel_rfl) (by kernel_rfl) (.int .i64 (64 * at1)) rfl (fun _ hw => r_muli rfl rfl (by omega)) (Below.refl _ _) ?_
    refine EA_take 6 rfl (by kernel_rfl) (by kernel_rfl) (by kernel_rfl) (cutV v2 0 ((64 * at1 : Int).toNat)) rfl (fun _ hw => r_slice rfl ((H2.below B67).below hw) Try.underlying22 (by kernel_rfl) 0 ((64 * at1 : Int).toNat) (by first | omega | (simp; omega) | simp) (by first | omega | (simp; omega) | simp) (.inl ⟨rfl, rfl⟩) (.inr ⟨_, _, rfl, (show _ = Value.int .i64 ((64 * at1 : Int).toNat : Int) from by rw [Int.toNat_of_nonneg (by omega)]; exact rfl)⟩)) (Below.refl _ _) ?_
    have R74 : Bs w64 (cutV v2 0 ((64 * at1 : Int).toNat)) (t.take ((64 * at1 : Int).toNat)) := Bs.upto (H2.below B67) ((64 * at1 : Int).toNat) (by first | omega | (simp; omega) | simp)
    have L75 : (t.take ((64 * at1 : Int).toNat)).length = ((64 * at1 : Int).toNat) - 0 := by first | (simp; done) | (simp; omega)
    have L79 := xo_len k c n (t.take ((64 * at1 : Int).toNat))
    refine EA_call 7 rfl (by kernel_rfl) [.slice (some ⟨b11, 0, none⟩) 32 32, .int .i64 c, .slice (some ⟨b19, 0, none⟩) 12 12, (cutV v2 0 ((64 * at1 : Int).toNat))] (.inl rfl) rfl Try.func12 rfl nm12 rfl (XOR_ok (.slice (some ⟨b11, 0, none⟩) 32 32) k c (.slice (some ⟨b19, 0, none⟩) 12 12) n (cutV v2 0 ((64 * at1 : Int).toNat)) (t.take ((64 * at1 : Int).toNat)) w64 (R17.below B68) (R25.below B69) R74 (chk_of (by omega) (by omega) (by omega)) (by first | omega | (simp; done) | (simp; omega))) ?_
    rintro _ w80 ⟨p76, rfl, O77, B78⟩
    have B81 : Below w.heap.size w w80 := below_full B67 B67.size B78
    have B82 : Below w12.heap.size w12 w80 := below_full B68 B68.size B78
    have B83 : Below w20.heap.size w20 w80 := below_full B69 B69.size B78
    have B84 : Below w28.heap.size w28 w80 := below_full B70 B70.size B78
    have B85 : Below w47.heap.size w47 w80 := below_full B71 B71.size B78
    have B86 : Below w58.heap.size w58 w80 := below_full B72 B72.size B78
    have B87 : Below w64.heap.size w64 w80 := B78
    refine ⟨B87, ?_⟩
    refine EA_strong (fun w' => Below w80.heap.size w80 w') (fun _ hw => below_full B87 B87.size hw) ?_
    refine EA_take 8 rfl (by kernel_rfl) (by kernel_rfl) (by kernel_rfl) (.tuple #[p76, .int .i64 0]) rfl (fun _ hw => r_move rfl) (Below.refl _ _) ?_
    refine EA_take 9 rfl (by kernel_rfl) (by kernel_rfl) (by kernel_rfl) p76 rfl (fun _ hw => r_extract rfl rfl) (Below.refl _ _) ?_
    refine EA_take 10 rfl (by kernel_rfl) (by kernel_rfl) (by kernel_rfl) (.int .i64 0) rfl (fun _ hw => r_extract rfl rfl) (Below.refl _ _) ?_
    refine EA_take 11 rfl (by kernel_rfl) (by kernel_rfl) (by kernel_rfl) p76 rfl (fun _ hw => r_assign rfl) (Below.refl _ _) ?_
    refine EA_take 12 rfl (by kernel_rfl) (by kernel_rfl) (by kernel_rfl) (.int .i64 0) rfl (fun _ hw => r_assign rfl) (Below.refl _ _) ?_
    refine EA_done (by kernel_rfl) ?_
    refine thn_n ?_
    refine EC_seq ?_
    refine EC_held (fun w' => Below w80.heap.size w80 w') (by kernel_rfl) ?_
    intro w88 B89 z90
    have B91 : Below w.heap.size w w88 := below_full B81 B81.size B89
    have B92 : Below w12.heap.size w12 w88 := below_full B82 B82.size B89
    have B93 : Below w20.heap.size w20 w88 := below_full B83 B83.size B89
    have B94 : Below w28.heap.size w28 w88 := below_full B84 B84.size B89
    have B95 : Below w47.heap.size w47 w88 := below_full B85 B85.size B89
    have B96 : Below w58.heap.size w58 w88 := below_full B86 B86.size B89
    have B97 : Below w64.heap.size w64 w88 := below_full B87 B87.size B89
    have B98 : Below w80.heap.size w80 w88 := B89
    refine EA_strong (fun w' => Below w88.heap.size w88 w') (fun _ hw => below_full B98 B98.size hw) ?_
    refine EA_take 0 rfl (by kernel_rfl) (by kernel_rfl) (by kernel_rfl) (.slice (some ⟨b11, 0, none⟩) 32 32) rfl (fun _ hw => r_sliceA rfl Try.underlying32 (by kernel_rfl)) (Below.refl _ _) ?_
    refine EA_take 1 rfl (by kernel_rfl) (by kernel_rfl) (by kernel_rfl) (.int .i64 c) rfl (fun _ hw => r_move rfl) (Below.refl _ _) ?_
    refine EA_take 2 rfl (by kernel_rfl) (by kernel_rfl) (by kernel_rfl) (.int .i64 at1) rfl (fun _ hw => r_move rfl) (Below.refl _ _) ?_
    refine EA_take 3 rfl (by kernel_rfl) (by kernel_rfl) (by kernel_rfl) (.int .i64 (c + at1)) rfl (fun _ hw => r_addi rfl rfl (by omega)) (Below.refl _ _) ?_
    refine EA_take 4 rfl (by kernel_rfl) (by kernel_rfl) (by kernel_rfl) (.int .i64 ((c + at1) % 4294967296)) rfl (fun _ hw => r_remi rfl rfl (by omega) (by omega)) (Below.refl _ _) ?_
    refine EA_take 5 rfl (by kernel_rfl) (by kernel_rfl) (by kernel_rfl) (.slice (some ⟨b19, 0, none⟩) 12 12) rfl (fun _ hw => r_sliceA rfl Try.underlying33 (by kernel_rfl)) (Below.refl _ _) ?_
    refine EA_take 6 rfl (by kernel_rfl) (by kernel_rfl) (by kernel_rfl) v2 rfl (fun _ hw => r_move rfl) (Below.refl _ _) ?_
    refine EA_take 7 rfl (by kernel_rfl) (by kernel_rfl) (by kernel_rfl) (.int .i64 at1) rfl (fun _ hw => r_move rfl) (Below.refl _ _) ?_
    refine EA_take 8 rfl (by kernel_rfl) (by kernel_rfl) (by kernel_rfl) (.int .i64 (64 * at1)) rfl (fun _ hw => r_muli rfl rfl (by omega)) (Below.refl _ _) ?_
    refine EA_take 9 rfl (by kernel_rfl) (by kernel_rfl) (by kernel_rfl) (cutV v2 ((64 * at1 : Int).toNat) t.length) rfl (fun _ hw => r_slice rfl ((H2.below B91).below hw) Try.underlying22 (by kernel_rfl) ((64 * at1 : Int).toNat) t.length (by first | omega | (simp; omega) | simp) (by first | omega | (simp; omega) | simp) (.inr ⟨_, _, rfl, (show _ = Value.int .i64 ((64 * at1 : Int).toNat : Int) from by rw [Int.toNat_of_nonneg (by omega)]; exact rfl)⟩) (.inl ⟨rfl, by simp⟩)) (Below.refl _ _) ?_
    have R102 : Bs w88 (cutV v2 ((64 * at1 : Int).toNat) t.length) (t.drop ((64 * at1 : Int).toNat)) := Bs.from (H2.below B91) ((64 * at1 : Int).toNat) (by first | omega | (simp; omega) | simp)
    have L103 : (t.drop ((64 * at1 : Int).toNat)).length = t.length - ((64 * at1 : Int).toNat) := by first | (simp; done) | (simp; omega)
    have L107 := xo_len k ((c + at1) % 4294967296) n (t.drop ((64 * at1 : Int).toNat))
    refine EA_call 10 rfl (by kernel_rfl) [.slice (some ⟨b11, 0, none⟩) 32 32, .int .i64 ((c + at1) % 4294967296), .slice (some ⟨b19, 0, none⟩) 12 12, (cutV v2 ((64 * at1 : Int).toNat) t.length)] (.inl rfl) rfl Try.func12 rfl nm12 rfl (XOR_ok (.slice (some ⟨b11, 0, none⟩) 32 32) k ((c + at1) % 4294967296) (.slice (some ⟨b19, 0, none⟩) 12 12) n (cutV v2 ((64 * at1 : Int).toNat) t.length) (t.drop ((64 * at1 : Int).toNat)) w88 (R17.below B92) (R25.below B93) R102 (chk_of (by omega) (by omega) (by omega)) (by first | omega | (simp; done) | (simp; omega))) ?_
    rintro _ w108 ⟨p104, rfl, O105, B106⟩
    have B109 : Below w.heap.size w w108 := below_full B91 B91.size B106
    have B110 : Below w12.heap.size w12 w108 := below_full B92 B92.size B106
    have B111 : Below w20.heap.size w20 w108 := below_full B93 B93.size B106
    have B112 : Below w28.heap.size w28 w108 := below_full B94 B94.size B106
    have B113 : Below w47.heap.size w47 w108 := below_full B95 B95.size B106
    have B114 : Below w58.heap.size w58 w108 := below_full B96 B96.size B106
    have B115 : Below w64.heap.size w64 w108 := below_full B97 B97.size B106
    have B116 : Below w80.heap.size w80 w108 := below_full B98 B98.size B106
    have B117 : Below w88.heap.size w88 w108 := B106
    refine ⟨B117, ?_⟩
    refine EA_strong (fun w' => Below w108.heap.size w108 w') (fun _ hw => below_full B117 B117.size hw) ?_
    refine EA_take 11 rfl (by kernel_rfl) (by kernel_rfl) (by kernel_rfl) (.tuple #[p104, .int .i64 0]) rfl (fun _ hw => r_move rfl) (Below.refl _ _) ?_
    refine EA_take 12 rfl (by kernel_rfl) (by kernel_rfl) (by kernel_rfl) p104 rfl (fun _ hw => r_extract rfl rfl) (Below.refl _ _) ?_
    refine EA_take 13 rfl (by kernel_rfl) (by kernel_rfl) (by kernel_rfl) (.int .i64 0) rfl (fun _ hw => r_extract rfl rfl) (Below.refl _ _) ?_
    refine EA_take 14 rfl (by kernel_rfl) (by kernel_rfl) (by kernel_rfl) p104 rfl (fun _ hw => r_assign rfl) (Below.refl _ _) ?_
    refine EA_take 15 rfl (by kernel_rfl) (by kernel_rfl) (by kernel_rfl) (.int .i64 0) rfl (fun _ hw => r_assign rfl) (Below.refl _ _) ?_
    refine EA_done (by kernel_rfl) ?_
    refine thn_n ?_
    refine EC_seq ?_
    refine EC_reg ?_
    refine EL_val (.int .i64 0) w108 rfl (r_move rfl) ?_
    refine EL_val (.bool true) w108 rfl (r_dec (by decide) (r_eql rfl rfl)) ?_
    refine EL_val (.bool true) w108 rfl (r_move rfl) ?_
    refine EL_gval 80 rfl rfl rfl rfl (.int .i64 0) w108 rfl (r_move rfl) ?_
    refine EL_gval 80 rfl rfl rfl rfl (.bool true) w108 rfl (r_dec (by decide) (r_eql rfl rfl)) ?_
    refine EL_val (.bool true) w108 rfl (r_pickT rfl rfl) ?_
    refine EL_val (.bool true) w108 rfl (r_move rfl) ?_
    refine EL_gval 84 rfl rfl rfl rfl (.int .i64 0) w108 rfl (r_move rfl) ?_
    refine EL_gval 84 rfl rfl rfl rfl (.bool true) w108 rfl (r_dec (by decide) (r_eql rfl rfl)) ?_
    refine EL_val (.bool true) w108 rfl (r_pickT rfl rfl) ?_
    refine EL_val (.bool true) w108 rfl (r_move rfl) ?_
    refine EL_gval 88 rfl rfl rfl rfl p54 w108 rfl (r_move rfl) ?_
    refine EL_gval 88 rfl rfl rfl rfl (.string (str (xo k c n t))) w108 rfl (r_str rfl ((own_row O55).below B114) Try.underlying22 Try.underlying5 Try.underlying9) ?_
    refine EL_gval 88 rfl rfl rfl rfl p76 w108 rfl (r_move rfl) ?_
    refine EL_gval 88 rfl rfl rfl rfl (.string (str (xo k c n (t.take ((64 * at1 : Int).toNat))))) w108 rfl (r_str rfl ((own_row O77).below B116) Try.underlying22 Try.underlying5 Try.underlying9) ?_
    refine EL_gval 88 rfl rfl rfl rfl p104 w108 rfl (r_move rfl) ?_
    refine EL_gval 88 rfl rfl rfl rfl (.string (str (xo k ((c + at1) % 4294967296) n (t.drop ((64 * at1 : Int).toNat))))) w108 rfl (r_str rfl (own_row O105) Try.underlying22 Try.underlying5 Try.underlying9) ?_
    refine EL_gval 88 rfl rfl rfl rfl (.string (str ((xo k c n (t.take ((64 * at1 : Int).toNat))) ++ (xo k ((c + at1) % 4294967296) n (t.drop ((64 * at1 : Int).toNat)))))) w108 rfl (r_adds rfl rfl (by first | omega | (simp; omega))) ?_
    refine EL_gval 88 rfl rfl rfl rfl (.bool true) w108 rfl (r_dec (show (decide ((xo k c n t) = ((xo k c n (t.take ((64 * at1 : Int).toNat))) ++ (xo k ((c + at1) % 4294967296) n (t.drop ((64 * at1 : Int).toNat)))))) = true from cut_end (by omega) (by omega)) (r_eqls rfl rfl)) ?_
    refine EL_val (.bool true) w108 rfl (r_pickT rfl rfl) ?_
    refine EL_val (.bool true) w108 rfl (r_assign rfl) ?_
    refine EL_nil ?_
    refine thn_n ?_
    refine EC_ret ?_
    refine fin1 Try.results5 (show _ = .bool true from rfl) ⟨_, rfl, ?_⟩
    exact ⟨rfl, B109⟩
theorem own : ownKnob Try.prog.godebug = none := by kernel_rfl
theorem laidOut : laidOutB Try.prog = true := by kernel_rfl
set_option maxRecDepth 100000 in
theorem lifted (os : Os) (started : os.Started) (H : Type) (enc : TypeId × Value → H) :
    ReturnsInHanded {} Try.checked os 5 .any (Rows.chachaCutsSpec.pre6 enc Try.prog Try.f5 Rows.chachaCutsRow.domain false) (Rows.chachaCutsSpec.post enc Try.prog Try.f5 false true false false) := by
  refine returnsInHanded_of_change (C := Try.checked) own started (by kernel_rfl) Try.func5
    (ChangeSpec.witness6 (enc := enc) (C := Try.checked) false ⟨#[], #[.agg #[.int .u8 0, .int .u8 0, .int .u8 0, .int .u8 0, .int .u8 0, .int .u8 0, .int .u8 0, .int .u8 0, .int .u8 0, .int .u8 0, .int .u8 0, .int .u8 0, .int .u8 0, .int .u8 0, .int .u8 0, .int .u8 0, .int .u8 0, .int .u8 0, .int .u8 0, .int .u8 0, .int .u8 0, .int .u8 0, .int .u8 0, .int .u8 0, .int .u8 0, .int .u8 0, .int .u8 0, .int .u8 0, .int .u8 0, .int .u8 0, .int .u8 0, .int .u8 0], .int .i64 0, .agg #[.int .u8 0, .int .u8 0, .int .u8 0, .int .u8 0, .int .u8 0, .int .u8 0, .int .u8 0, .int .u8 0, .int .u8 0, .int .u8 0, .int .u8 0, .int .u8 0], .slice none 0 0, .int .i64 0], []⟩ 8 (by kernel_rfl) (by kernel_rfl) (by kernel_rfl) (by kernel_rfl)) ?_
  intro W base args ds gs before hval0 hW hcnd _
  have hval : ∀ (j : Nat) t v, Try.f5.params[j]? = some t → args[j]? = some v → Value.okWide Try.prog W .any base t v := hval0
  have hW' := hW
  obtain ⟨p, q, hA0, hV, rfl, hfz, hnd⟩ := hW
  have hA : DataW.TrodAll enc Try.prog W 0 (fun _ => true) true Try.f5.params.toList args.toList ds p := hA0
  rw [Try.params5] at hA hval
  obtain ⟨v0, vs0, d0, ds0, p0, q0, hargs, rfl, rfl, h0, r0⟩ := trodAll_cons hA
  obtain ⟨v1, vs1, d1, ds1, p1, q1, rfl, rfl, rfl, h1, r1⟩ := trodAll_cons r0
  obtain ⟨v2, vs2, d2, ds2, p2, q2, rfl, rfl, rfl, h2, r2⟩ := trodAll_cons r1
  obtain ⟨v3, vs3, d3, ds3, p3, q3, rfl, rfl, rfl, h3, r3⟩ := trodAll_cons r2
  obtain ⟨v4, vs4, d4, ds4, p4, q4, rfl, rfl, rfl, h4, r4⟩ := trodAll_cons r3
  obtain ⟨rfl, rfl, rfl⟩ := trodAll_nil r4
  obtain rfl : args = #[v0, v1, v2, v3, v4] := by cases args; simp_all
  obtain ⟨rfl, rfl⟩ := trodVars_none hV
  have k0 := h0
  have lt0 : ∀ x ∈ p0, x.block < W.heap.size := by obtain ⟨m, hm⟩ := k0; exact DataW.trod_lt m _ _ _ hm
  obtain ⟨l0, hl0, rfl⟩ := arr_open (n := 32) Try.underlying32 Try.underlying5 (by kernel_rfl) (by kernel_rfl) (hval 0 32 v0 rfl rfl) h0
  have k1 := h1
  have lt1 : ∀ x ∈ p1, x.block < W.heap.size := by obtain ⟨m, hm⟩ := k1; exact DataW.trod_lt m _ _ _ hm
  obtain ⟨a1, rfl, rfl, rfl, w1⟩ := open_int Try.underlying3 (hval 1 3 v1 rfl rfl) h1
  have k2 := h2
  have lt2 : ∀ x ∈ p2, x.block < W.heap.size := by obtain ⟨m, hm⟩ := k2; exact DataW.trod_lt m _ _ _ hm
  obtain ⟨l2, hl2, rfl⟩ := arr_open (n := 12) Try.underlying33 Try.underlying5 (by kernel_rfl) (by kernel_rfl) (hval 2 33 v2 rfl rfl) h2
  have k3 := h3
  have lt3 : ∀ x ∈ p3, x.block < W.heap.size := by obtain ⟨m, hm⟩ := k3; exact DataW.trod_lt m _ _ _ hm
  obtain ⟨a3, len3, cap3, rfl⟩ := okWide_slice Try.underlying22 (hval 3 22 v3 rfl rfl)
  obtain ⟨b3, H3⟩ : ∃ l, Bs W (.slice a3 len3 cap3) l := by
    obtain ⟨fuel, hf⟩ := h3
    rcases open_ints Try.underlying22 Try.underlying5 (by kernel_rfl) hf with ⟨hcs, _⟩ | ⟨x, l, c, zs, hcs, _, hl, hm, hz, _, hcell, hwz⟩
    · simp [Value.cells] at hcs
      obtain ⟨rfl, rfl, rfl⟩ := hcs
      exact ⟨[], Row.nil W⟩
    · simp [Value.cells] at hcs
      obtain ⟨rfl, rfl, rfl⟩ := hcs
      exact bs_open hl hm (by simpa using hz) hcell hwz
  have k4 := h4
  have lt4 : ∀ x ∈ p4, x.block < W.heap.size := by obtain ⟨m, hm⟩ := k4; exact DataW.trod_lt m _ _ _ hm
  obtain ⟨a4, rfl, rfl, rfl, w4⟩ := open_int Try.underlying3 (hval 4 3 v4 rfl rfl) h4
  clear hA0 hval0
  refine Calls.mono (ChachaCuts_c l0 a1 l2 (.slice a3 len3 cap3) b3 a4 W hl0 (rng_i64 w1) hl2 H3 (rng_i64 w4)) fun e W' ⟨v', he, hv, bel⟩ => ?_
  subst he
  subst hv
  exact ⟨_, rfl, _, _, _, [], _, [], hW', trodAll_mk1 (shut_bool Try.underlying4 _), (trodAll_cons_mk (Below.trod laidOut (by kernel_rfl) (of_decide_eq_true (by kernel_rfl)) k0 bel lt0) (trodAll_cons_mk (Below.trod laidOut (by kernel_rfl) (of_decide_eq_true (by kernel_rfl)) k1 bel lt1) (trodAll_cons_mk (Below.trod laidOut (by kernel_rfl) (of_decide_eq_true (by kernel_rfl)) k2 bel lt2) (trodAll_cons_mk (Below.trod laidOut (by kernel_rfl) (of_decide_eq_true (by kernel_rfl)) k3 bel lt3) (trodAll_cons_mk (Below.trod laidOut (by kernel_rfl) (of_decide_eq_true (by kernel_rfl)) k4 bel lt4) trodAll_mk0))))), rfl, bel.frame _, fun h => by cases h⟩
theorem over : Rows.chachaCutsRow.holds Try.pinned (OpenSpec.ofChange Rows.chachaCutsSpec) :=
  OpenClaim.holds_of_wide 5 Try.f5 rfl rfl rfl rfl rfl rfl rfl ⟨rfl, rfl, rfl, rfl, rfl⟩ rfl rfl rfl rfl rfl (by kernel_rfl) Try.func5 (by kernel_rfl)
    (of_decide_eq_true (by kernel_rfl)) (by unfold Func.isWrapper; first | (rw [if_pos (by decide +kernel)]; kernel_rfl) | (rw [if_neg (by decide +kernel)]; exact ⟨rfl, rfl⟩))
    (fun os started H enc _ => lifted os started H enc)
end Go.Proofs.Ytanlbploeifhpaa.chachaCuts
namespace Go.Proofs.Ytanlbploeifhpaa
theorem ChachaCuts_holds : Rows.ChachaCutsSaid := chachaCuts.over
end Go.Proofs.Ytanlbploeifhpaa
