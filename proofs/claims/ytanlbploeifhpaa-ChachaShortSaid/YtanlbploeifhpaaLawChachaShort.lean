/-
  The beginning of a text is xored to the beginning of what the text is.
  Its conditions: none: whatever the input, in whatever memory.
-/
import Derived.Test.YtanlbploeifhpaaRows
import Derived.Test.YtanlbploeifhpaaWalksE
import Derived.ProofKit
import Derived.OpenShut
import Derived.ShutString
import Derived.ChangeOld
set_option linter.unusedVariables false
set_option linter.unusedSimpArgs false
namespace Go.Proofs.Ytanlbploeifhpaa.chachaShort
open Go.ChangeShapes Go.WideShapes Go.ChangeAt Go.RowKit Go.Ecal
open Go.ChangeMaps (open_string shut_string)
set_option maxHeartbeats 2000000 in
theorem ChachaShort_c (k : List UInt8) (c : Int) (n : List UInt8) (v2 : Value) (t : List UInt8) (m : Int) (w : World) (hk : k.length = 32) (hc : -9223372036854775808 ≤ c ∧ c ≤ 9223372036854775807) (hn : n.length = 12) (H2 : Bs w v2 t) (hm : -9223372036854775808 ≤ m ∧ m ≤ 9223372036854775807) : Ret Try.prog 7 [.agg (k.map byt).toArray, .int .i64 c, .agg (n.map byt).toArray, v2, .int .i64 m] w fun v w' => v = .bool true ∧ Below w.heap.size w w' := by
  refine ret_E Try.func7 rfl Try.ntmps7 (by simp) ?_
  refine EC_seq ?_
  refine EC_reg ?_
  refine EL_box (k.map byt) rfl rfl rfl ?_
  intro b11 w12 k13 A14 B15 z16
  have B18 : Below w.heap.size w w12 := B15
  have R17 : Bs w12 (.slice (some ⟨b11, 0, none⟩) 32 32) k := barr_row A14 (by omega) (by decide)
  refine EL_box (n.map byt) rfl rfl rfl ?_
  intro b19 w20 k21 A22 B23 z24
  have B26 : Below w.heap.size w w20 := below_full B18 B18.size B23
  have B27 : Below w12.heap.size w12 w20 := B23
  have R25 : Bs w20 (.slice (some ⟨b19, 0, none⟩) 12 12) n := barr_row A22 (by omega) (by decide)
  refine EL_val (.bool false) w20 rfl (r_assign rfl) ?_
  refine EL_nil ?_
  refine thn_n ?_
  refine EC_seq ?_
  refine EC_seq ?_
  refine EC_reg ?_
  refine EL_ret [] rfl Try.func9 rfl nm9 rfl (anchor_c w20) ?_
  rintro _ w28 ⟨rfl, B29⟩
  have B30 : Below w.heap.size w w28 := below_full B26 B26.size B29
  have B31 : Below w12.heap.size w12 w28 := below_full B27 B27.size B29
  have B32 : Below w20.heap.size w20 w28 := B29
  refine EL_val (.bool false) w28 rfl (r_dec (show (!true) = false from rfl) (r_not rfl)) ?_
  refine EL_nil ?_
  refine thn_n ?_
  refine EC_cond_false rfl ?_
  refine EC_skip ?_
  refine thn_n ?_
  refine EC_seq ?_
  refine EC_seq ?_
  refine EC_reg ?_
  refine EL_val v2 w28 rfl (r_move rfl) ?_
  refine EL_val (.int .i64 (t.length : Int)) w28 rfl (lenB (r_len rfl (H2.below B30) Try.underlying22)) ?_
  refine EL_val (.bool (decide (400 < (t.length : Int)))) w28 rfl (r_gtr rfl rfl) ?_
  refine EL_val (.bool (decide (400 < (t.length : Int)))) w28 rfl (r_move rfl) ?_
  refine EL_gite 20 rfl rfl rfl (.int .i64 c) rfl (fun g33 => r_move rfl) ?_
  refine EL_gite 20 rfl rfl rfl (.bool (decide (c < 0))) rfl (fun g34 => r_lss (cond_of g34 rfl) rfl) ?_
  refine EL_val (.bool ((decide (400 < (t.length : Int))) || (decide (c < 0)))) w28 rfl (r_or rfl rfl rfl) ?_
  refine EL_val (.bool ((decide (400 < (t.length : Int))) || (decide (c < 0)))) w28 rfl (r_move rfl) ?_
  refine EL_gite 24 rfl rfl rfl (.int .i64 c) rfl (fun g35 => r_move rfl) ?_
  refine EL_gite 24 rfl rfl rfl (.bool (decide (4294967295 < c))) rfl (fun g36 => r_gtr (cond_of g36 rfl) rfl) ?_
  refine EL_val (.bool (((decide (400 < (t.length : Int))) || (decide (c < 0))) || (decide (4294967295 < c)))) w28 rfl (r_or rfl rfl rfl) ?_
  refine EL_val (.bool (((decide (400 < (t.length : Int))) || (decide (c < 0))) || (decide (4294967295 < c)))) w28 rfl (r_move rfl) ?_
  refine EL_gite 28 rfl rfl rfl (.int .i64 m) rfl (fun g37 => r_move rfl) ?_
  refine EL_gite 28 rfl rfl rfl (.bool (decide (m < 0))) rfl (fun g38 => r_lss (cond_of g38 rfl) rfl) ?_
  refine EL_val (.bool ((((decide (400 < (t.length : Int))) || (decide (c < 0))) || (decide (4294967295 < c))) || (decide (m < 0)))) w28 rfl (r_or rfl rfl rfl) ?_
  refine EL_val (.bool ((((decide (400 < (t.length : Int))) || (decide (c < 0))) || (decide (4294967295 < c))) || (decide (m < 0)))) w28 rfl (r_move rfl) ?_
  refine EL_gite 32 rfl rfl rfl (.int .i64 m) rfl (fun g39 => r_move rfl) ?_
  refine EL_gite 32 rfl rfl rfl v2 rfl (fun g40 => r_move rfl) ?_
  refine EL_gite 32 rfl rfl rfl (.int .i64 (t.length : Int)) rfl (fun g41 => lenB (r_len (cond_of g41 rfl) (H2.below B30) Try.underlying22)) ?_
  refine EL_gite 32 rfl rfl rfl (.bool (decide ((t.length : Int) < m))) rfl (fun g42 => r_gtr (cond_of g42 rfl) (cond_of g42 rfl)) ?_
  refine EL_val (.bool (((((decide (400 < (t.length : Int))) || (decide (c < 0))) || (decide (4294967295 < c))) || (decide (m < 0))) || (decide ((t.length : Int) < m)))) w28 rfl (r_or rfl rfl rfl) ?_
  refine EL_nil ?_
  refine thn_n ?_
  refine EC_cond (t := ((((decide (400 < (t.length : Int))) || (decide (c < 0))) || (decide (4294967295 < c))) || (decide (m < 0))) || (decide ((t.length : Int) < m))) rfl (fun h43 => ?_) (fun h43 => ?_)
  · simp at h43
    refine EC_seq ?_
    refine EC_reg ?_
    refine EL_val (.bool true) w28 rfl (r_assign rfl) ?_
    refine EL_nil ?_
    refine thn_n ?_
    refine EC_ret ?_
    refine thn_r ?_
    refine fin1 Try.results7 (show _ = .bool true from rfl) ⟨_, rfl, ?_⟩
    exact ⟨rfl, B30⟩
  · simp at h43
    refine EC_skip ?_
    refine thn_n ?_
    refine EC_seq ?_
    refine EC_held (fun w' => Below w28.heap.size w28 w') (by kernel_rfl) ?_
    intro w44 B45 z46
    have B47 : Below w.heap.size w w44 := below_full B30 B30.size B45
    have B48 : Below w12.heap.size w12 w44 := below_full B31 B31.size B45
    have B49 : Below w20.heap.size w20 w44 := below_full B32 B32.size B45
    have B50 : Below w28.heap.size w28 w44 := B45
    refine EA_strong (fun w' => Below w44.heap.size w44 w') (fun _ hw => below_full B50 B50.size hw) ?_
    refine EA_take 0 rfl (by kernel_rfl) (by kernel_rfl) (by kernel_rfl) (.slice (some ⟨b11, 0, none⟩) 32 32) rfl (fun _ hw => r_sliceA rfl Try.underlying32 (by kernel_rfl)) (Below.refl _ _) ?_
    refine EA_take 1 rfl (by kernel_rfl) (by kernel_rfl) (by kernel_rfl) (.int .i64 c) rfl (fun _ hw => r_move rfl) (Below.refl _ _) ?_
    refine EA_take 2 rfl (by kernel_rfl) (by kernel_rfl) (by kernel_rfl) (.slice (some ⟨b19, 0, none⟩) 12 12) rfl (fun _ hw => r_sliceA rfl Try.underlying33 (by kernel_rfl)) (Below.refl _ _) ?_
    refine EA_take 3 rfl (by kernel_rfl) (by kernel_rfl) (by kernel_rfl) v2 rfl (fun _ hw => r_move rfl) (Below.refl _ _) ?_
    have L54 := xo_len k c n t
    refine EA_call 4 rfl (by kernel_rfl) [.slice (some ⟨b11, 0, none⟩) 32 32, .int .i64 c, .slice (some ⟨b19, 0, none⟩) 12 12, v2] (.inl rfl) rfl Try.func12 rfl nm12 rfl (XOR_ok (.slice (some ⟨b11, 0, none⟩) 32 32) k c (.slice (some ⟨b19, 0, none⟩) 12 12) n v2 t w44 (R17.below B48) (R25.below B49) (H2.below B47) (chk_of (by omega) (by omega) (by omega)) (by first | omega | (simp; done) | (simp; omega))) ?_
    rintro _ w55 ⟨p51, rfl, O52, B53⟩
    have B56 : Below w.heap.size w w55 := below_full B47 B47.size B53
    have B57 : Below w12.heap.size w12 w55 := below_full B48 B48.size B53
    have B58 : Below w20.heap.size w20 w55 := below_full B49 B49.size B53
    have B59 : Below w28.heap.size w28 w55 := below_full B50 B50.size B53
    have B60 : Below w44.heap.size w44 w55 := B53
    refine ⟨B60, ?_⟩
    refine EA_strong (fun w' => Below w55.heap.size w55 w') (fun _ hw => below_full B60 B60.size hw) ?_
    refine EA_take 5 rfl (by kernel_rfl) (by kernel_rfl) (by kernel_rfl) (.tuple #[p51, .int .i64 0]) rfl (fun _ hw => r_move rfl) (Below.refl _ _) ?_
    refine EA_take 6 rfl (by kernel_rfl) (by kernel_rfl) (by kernel_rfl) p51 rfl (fun _ hw => r_extract rfl rfl) (Below.refl _ _) ?_
    refine EA_take 7 rfl (by kernel_rfl) (by kernel_rfl) (by kernel_rfl) (.int .i64 0) rfl (fun _ hw => r_extract rfl rfl) (Below.refl _ _) ?_
    refine EA_take 8 rfl (by kernel_rfl) (by kernel_rfl) (by kernel_rfl) p51 rfl (fun _ hw => r_assign rfl) (Below.refl _ _) ?_
    refine EA_take 9 rfl (by kernel_rfl) (by kernel_rfl) (by kernel_rfl) (.int .i64 0) rfl (fun _ hw => r_assign rfl) (Below.refl _ _) ?_
    refine EA_done (by kernel_rfl) ?_
    refine thn_n ?_
    refine EC_seq ?_
    refine EC_held (fun w' => Below w55.heap.size w55 w') (by kernel_rfl) ?_
    intro w61 B62 z63
    have B64 : Below w.heap.size w w61 := below_full B56 B56.size B62
    have B65 : Below w12.heap.size w12 w61 := below_full B57 B57.size B62
    have B66 : Below w20.heap.size w20 w61 := below_full B58 B58.size B62
    have B67 : Below w28.heap.size w28 w61 := below_full B59 B59.size B62
    have B68 : Below w44.heap.size w44 w61 := below_full B60 B60.size B62
    have B69 : Below w55.heap.size w55 w61 := B62
    refine EA_strong (fun w' => Below w61.heap.size w61 w') (fun _ hw => below_full B69 B69.size hw) ?_
    refine EA_take 0 rfl (by kernel_rfl) (by kernel_rfl) (by kernel_rfl) (.slice (some ⟨b11, 0, none⟩) 32 32) rfl (fun _ hw => r_sliceA rfl Try.underlying32 (by kernel_rfl)) (Below.refl _ _) ?_
    refine EA_take 1 rfl (by kernel_rfl) (by kernel_rfl) (by kernel_rfl) (.int .i64 c) rfl (fun _ hw => r_move rfl) (Below.refl _ _) ?_
    refine EA_take 2 rfl (by kernel_rfl) (by kernel_rfl) (by kernel_rfl) (.slice (some ⟨b19, 0, none⟩) 12 12) rfl (fun _ hw => r_sliceA rfl Try.underlying33 (by kernel_rfl)) (Below.refl _ _) ?_
    refine EA_take 3 rfl (by kernel_rfl) (by kernel_rfl) (by kernel_rfl) v2 rfl (fun _ hw => r_move rfl) (Below.refl _ _) ?_
    refine EA_take 4 rfl (by kernel_rfl) (by kernel_rfl) (by kernel_rfl) (.int .i64 m) rfl (fun _ hw => r_move rfl) (Below.refl _ _) ?_
    refine EA_take 5 rfl (by kernel_rfl) (by kernel_rfl) (by kernel_rfl) (cutV v2 0 ((m : Int).toNat)) rfl (fun _ hw => r_slice rfl ((H2.below B64).below hw) Try.underlying22 (by kernel_rfl) 0 ((m : Int).toNat) (by first | omega | (simp; omega) | simp) (by first | omega | (simp; omega) | simp) (.inl ⟨rfl, rfl⟩) (.inr ⟨_, _, rfl, (show _ = Value.int .i64 ((m : Int).toNat : Int) from by rw [Int.toNat_of_nonneg (by omega)]; exact rfl)⟩)) (Below.refl _ _) ?_
    have R70 : Bs w61 (cutV v2 0 ((m : Int).toNat)) (t.take ((m : Int).toNat)) := Bs.upto (H2.below B64) ((m : Int).toNat) (by first | omega | (simp; omega) | simp)
    have L71 : (t.take ((m : Int).toNat)).length = ((m : Int).toNat) - 0 := by first | (simp; done) | (simp; omega)
    have L75 := xo_len k c n (t.take ((m : Int).toNat))
    refine EA_call 6 rfl (by kernel_rfl) [.slice (some ⟨b11, 0, none⟩) 32 32, .int .i64 c, .slice (some ⟨b19, 0, none⟩) 12 12, (cutV v2 0 ((m : Int).toNat))] (.inl rfl) rfl Try.func12 rfl nm12 rfl (XOR_ok (.slice (some ⟨b11, 0, none⟩) 32 32) k c (.slice (some ⟨b19, 0, none⟩) 12 12) n (cutV v2 0 ((m : Int).toNat)) (t.take ((m : Int).toNat)) w61 (R17.below B65) (R25.below B66) R70 (chk_of (by omega) (by omega) (by omega)) (by first | omega | (simp; done) | (simp; omega))) ?_
    rintro _ w76 ⟨p72, rfl, O73, B74⟩
    have B77 : Below w.heap.size w w76 := below_full B64 B64.size B74
    have B78 : Below w12.heap.size w12 w76 := below_full B65 B65.size B74
    have B79 : Below w20.heap.size w20 w76 := below_full B66 B66.size B74
    have B80 : Below w28.heap.size w28 w76 := below_full B67 B67.size B74
    have B81 : Below w44.heap.size w44 w76 := below_full B68 B68.size B74
    have B82 : Below w55.heap.size w55 w76 := below_full B69 B69.size B74
    have B83 : Below w61.heap.size w61 w76 := B74
    refine ⟨B83, ?_⟩
    refine EA_strong (fun w' => Below w76.heap.size w76 w') (fun _ hw => below_full B83 B83.size hw) ?_
    refine EA_take 7 rfl (by kernel_rfl) (by kernel_rfl) (by kernel_rfl) (.tuple #[p72, .int .i64 0]) rfl (fun _ hw => r_move rfl) (Below.refl _ _) ?_
    refine EA_take 8 rfl (by kernel_rfl) (by kernel_rfl) (by kernel_rfl) p72 rfl (fun _ hw => r_extract rfl rfl) (Below.refl _ _) ?_
    refine EA_take 9 rfl (by kernel_rfl) (by kernel_rfl) (by kernel_rfl) (.int .i64 0) rfl (fun _ hw => r_extract rfl rfl) (Below.refl _ _) ?_
    refine EA_take 10 rfl (by kernel_rfl) (by kernel_rfl) (by kernel_rfl) p72 rfl (fun _ hw => r_assign rfl) (Below.refl _ _) ?_
    refine EA_take 11 rfl (by kernel_rfl) (by kernel_rfl) (by kernel_rfl) (.int .i64 0) rfl (fun _ hw => r_assign rfl) (Below.refl _ _) ?_
    refine EA_done (by kernel_rfl) ?_
    refine thn_n ?_
    refine EC_seq ?_
    refine EC_held (fun w' => Below w76.heap.size w76 w') (by kernel_rfl) ?_
    intro w84 B85 z86
    have B87 : Below w.heap.size w w84 := below_full B77 B77.size B85
    have B88 : Below w12.heap.size w12 w84 := below_full B78 B78.size B85
    have B89 : Below w20.heap.size w20 w84 := below_full B79 B79.size B85
    have B90 : Below w28.heap.size w28 w84 := below_full B80 B80.size B85
    have B91 : Below w44.heap.size w44 w84 := below_full B81 B81.size B85
    have B92 : Below w55.heap.size w55 w84 := below_full B82 B82.size B85
    have B93 : Below w61.heap.size w61 w84 := below_full B83 B83.size B85
    have B94 : Below w76.heap.size w76 w84 := B85
    refine EA_strong (fun w' => Below w84.heap.size w84 w') (fun _ hw => below_full B94 B94.size hw) ?_
    refine EA_take 0 rfl (by kernel_rfl) (by kernel_rfl) (by kernel_rfl) (.int .i64 0) rfl (fun _ hw => r_move rfl) (Below.refl _ _) ?_
    refine EA_take 1 rfl (by kernel_rfl) (by kernel_rfl) (by kernel_rfl) (.bool true) rfl (fun _ hw => r_dec (by decide) (r_eql rfl rfl)) (Below.refl _ _) ?_
    refine EA_take 2 rfl (by kernel_rfl) (by kernel_rfl) (by kernel_rfl) (.bool true) rfl (fun _ hw => r_move rfl) (Below.refl _ _) ?_
    refine EA_gtake 3 rfl (by kernel_rfl) (by kernel_rfl) (by kernel_rfl) 58 rfl rfl rfl rfl (.int .i64 0) rfl (fun _ hw => r_move rfl) (Below.refl _ _) ?_
    refine EA_gtake 4 rfl (by kernel_rfl) (by kernel_rfl) (by kernel_rfl) 58 rfl rfl rfl rfl (.bool true) rfl (fun _ hw => r_dec (by decide) (r_eql rfl rfl)) (Below.refl _ _) ?_
    refine EA_take 5 rfl (by kernel_rfl) (by kernel_rfl) (by kernel_rfl) (.bool true) rfl (fun _ hw => r_pickT rfl rfl) (Below.refl _ _) ?_
    refine EA_take 6 rfl (by kernel_rfl) (by kernel_rfl) (by kernel_rfl) (.bool true) rfl (fun _ hw => r_move rfl) (Below.refl _ _) ?_
    refine EA_gtake 7 rfl (by kernel_rfl) (by kernel_rfl) (by kernel_rfl) 62 rfl rfl rfl rfl p51 rfl (fun _ hw => r_move rfl) (Below.refl _ _) ?_
    refine EA_gtake 8 rfl (by kernel_rfl) (by kernel_rfl) (by kernel_rfl) 62 rfl rfl rfl rfl (.int .i64 ((xo k c n t).length : Int)) rfl (fun _ hw => lenB (r_len rfl (((own_row O52).below B92).below hw) Try.underlying22)) (Below.refl _ _) ?_
    refine EA_gtake 9 rfl (by kernel_rfl) (by kernel_rfl) (by kernel_rfl) 62 rfl rfl rfl rfl v2 rfl (fun _ hw => r_move rfl) (Below.refl _ _) ?_
    refine EA_gtake 10 rfl (by kernel_rfl) (by kernel_rfl) (by kernel_rfl) 62 rfl rfl rfl rfl (.int .i64 (t.length : Int)) rfl (fun _ hw => lenB (r_len rfl ((H2.below B87).below hw) Try.underlying22)) (Below.refl _ _) ?_
    refine EA_gtake 11 rfl (by kernel_rfl) (by kernel_rfl) (by kernel_rfl) 62 rfl rfl rfl rfl (.bool true) rfl (fun _ hw => r_dec (show (decide (((xo k c n t).length : Int) = (t.length : Int))) = true from by rw [xo_len]; simp) (r_eql rfl rfl)) (Below.refl _ _) ?_
    refine EA_take 12 rfl (by kernel_rfl) (by kernel_rfl) (by kernel_rfl) (.bool true) rfl (fun _ hw => r_pickT rfl rfl) (Below.refl _ _) ?_
    refine EA_take 13 rfl (by kernel_rfl) (by kernel_rfl) (by kernel_rfl) (.bool true) rfl (fun _ hw => r_move rfl) (Below.refl _ _) ?_
    refine EA_gtake 14 rfl (by kernel_rfl) (by kernel_rfl) (by kernel_rfl) 69 rfl rfl rfl rfl p72 rfl (fun _ hw => r_move rfl) (Below.refl _ _) ?_
    refine EA_gtake 15 rfl (by kernel_rfl) (by kernel_rfl) (by kernel_rfl) 69 rfl rfl rfl rfl (.string (str (xo k c n (t.take ((m : Int).toNat))))) rfl (fun _ hw => r_str rfl (((own_row O73).below B94).below hw) Try.underlying22 Try.underlying5 Try.underlying9) (Below.refl _ _) ?_
    refine EA_gtake 16 rfl (by kernel_rfl) (by kernel_rfl) (by kernel_rfl) 69 rfl rfl rfl rfl p51 rfl (fun _ hw => r_move rfl) (Below.refl _ _) ?_
    refine EA_gtake 17 rfl (by kernel_rfl) (by kernel_rfl) (by kernel_rfl) 69 rfl rfl rfl rfl (.int .i64 m) rfl (fun _ hw => r_move rfl) (Below.refl _ _) ?_
    refine EA_gtake 18 rfl (by kernel_rfl) (by kernel_rfl) (by kernel_rfl) 69 rfl rfl rfl rfl (cutV p51 0 ((m : Int).toNat)) rfl (fun _ hw => r_slice rfl (((own_row O52).below B92).below hw) Try.underlying22 (by kernel_rfl) 0 ((m : Int).toNat) (by first | omega | (simp; omega) | simp) (by first | omega | (simp; omega) | simp) (.inl ⟨rfl, rfl⟩) (.inr ⟨_, _, rfl, (show _ = Value.int .i64 ((m : Int).toNat : Int) from by rw [Int.toNat_of_nonneg (by omega)]; exact rfl)⟩)) (Below.refl _ _) ?_
    have R95 : Bs w84 (cutV p51 0 ((m : Int).toNat)) ((xo k c n t).take ((m : Int).toNat)) := Bs.upto ((own_row O52).below B92) ((m : Int).toNat) (by first | omega | (simp; omega) | simp)
    have L96 : ((xo k c n t).take ((m : Int).toNat)).length = ((m : Int).toNat) - 0 := by first | (simp; done) | (simp; omega)
    refine EA_gtake 19 rfl (by kernel_rfl) (by kernel_rfl) (by kernel_rfl) 69 rfl rfl rfl rfl (.string (str ((xo k c n t).take ((m : Int).toNat)))) rfl (fun _ hw => r_str rfl (R95.below hw) Try.underlying22 Try.underlying5 Try.underlying9) (Below.refl _ _) ?_
    refine EA_gtake 20 rfl (by kernel_rfl) (by kernel_rfl) (by kernel_rfl) 69 rfl rfl rfl rfl (.bool true) rfl (fun _ hw => r_dec (show (decide ((xo k c n (t.take ((m : Int).toNat))) = ((xo k c n t).take ((m : Int).toNat)))) = true from by rw [xo_take]; simp) (r_eqls rfl rfl)) (Below.refl _ _) ?_
    refine EA_take 21 rfl (by kernel_rfl) (by kernel_rfl) (by kernel_rfl) (.bool true) rfl (fun _ hw => r_pickT rfl rfl) (Below.refl _ _) ?_
    refine EA_take 22 rfl (by kernel_rfl) (by kernel_rfl) (by kernel_rfl) (.bool true) rfl (fun _ hw => r_assign rfl) (Below.refl _ _) ?_
    refine EA_done (by kernel_rfl) ?_
    refine thn_n ?_
    refine EC_ret ?_
    refine fin1 Try.results7 (show _ = .bool true from rfl) ⟨_, rfl, ?_⟩
    exact ⟨rfl, B87⟩
theorem own : ownKnob Try.prog.godebug = none := by kernel_rfl
theorem laidOut : laidOutB Try.prog = true := by kernel_rfl
set_option maxRecDepth 100000 in
theorem lifted (os : Os) (started : os.Started) (H : Type) (enc : TypeId × Value → H) :
    ReturnsInHanded {} Try.checked os 7 .any (Rows.chachaShortSpec.pre6 enc Try.prog Try.f7 Rows.chachaShortRow.domain false) (Rows.chachaShortSpec.post enc Try.prog Try.f7 false true false false) := by
  refine returnsInHanded_of_change (C := Try.checked) own started (by kernel_rfl) Try.func7
    (ChangeSpec.witness6 (enc := enc) (C := Try.checked) false ⟨#[], #[.agg #[.int .u8 0, .int .u8 0, .int .u8 0, .int .u8 0, .int .u8 0, .int .u8 0, .int .u8 0, .int .u8 0, .int .u8 0, .int .u8 0, .int .u8 0, .int .u8 0, .int .u8 0, .int .u8 0, .int .u8 0, .int .u8 0, .int .u8 0, .int .u8 0, .int .u8 0, .int .u8 0, .int .u8 0, .int .u8 0, .int .u8 0, .int .u8 0, .int .u8 0, .int .u8 0, .int .u8 0, .int .u8 0, .int .u8 0, .int .u8 0, .int .u8 0, .int .u8 0], .int .i64 0, .agg #[.int .u8 0, .int .u8 0, .int .u8 0, .int .u8 0, .int .u8 0, .int .u8 0, .int .u8 0, .int .u8 0, .int .u8 0, .int .u8 0, .int .u8 0, .int .u8 0], .slice none 0 0, .int .i64 0], []⟩ 8 (by kernel_rfl) (by kernel_rfl) (by kernel_rfl) (by kernel_rfl)) ?_
  intro W base args ds gs before hval0 hW hcnd _
  have hval : ∀ (j : Nat) t v, Try.f7.params[j]? = some t → args[j]? = some v → Value.okWide Try.prog W .any base t v := hval0
  have hW' := hW
  obtain ⟨p, q, hA0, hV, rfl, hfz, hnd⟩ := hW
  have hA : DataW.TrodAll enc Try.prog W 0 (fun _ => true) true Try.f7.params.toList args.toList ds p := hA0
  rw [Try.params7] at hA hval
  obtain ⟨v0, vs0, d0, ds0, p0, q0, hargs, rfl, rfl, h0, r0⟩ := trodAll_cons hA
  obtain ⟨v1, vs1, d1, ds1, p1, q1, rfl, rfl, rfl, h1, r1⟩ := trodAll_cons r0
  obtain ⟨v2, vs2, d2, ds2, p2, q2, rfl, rfl, rfl, h2, r2⟩ := trodAll_cons r1
  obtain ⟨v3, vs3, d3, ds3, p3, q3, rfl, rfl, rfl, h3, r3⟩ := trodAll_cons r2
  obtain ⟨v4, vs4, d4, ds4, p4, q4, rfl, rfl, rfl, h4, r4⟩ := trodAll_cons r3
  obtain ⟨rfl, rfl, rfl⟩ := trodAll_nil r4
  obtain rfl : args = #[v0, v1, v2, v3, v4] := by cases args; simp_all
  obtain ⟨rfl, rfl⟩ := trodVars_none hV
  have k0 := h0
  have lt0 : ∀ x ∈ p0, x.block < W.heap.size := by obtain ⟨m, hm⟩ := k0; exact DataW.trod_lt m _ _ _ hm
  obtain ⟨l0, hl0, rfl⟩ := arr_open (n := 32) Try.underlying32 Try.underlying5 (by kernel_rfl) (by kernel_rfl) (hval 0 32 v0 rfl rfl) h0
  have k1 := h1
  have lt1 : ∀ x ∈ p1, x.block < W.heap.size := by obtain ⟨m, hm⟩ := k1; exact DataW.trod_lt m _ _ _ hm
  obtain ⟨a1, rfl, rfl, rfl, w1⟩ := open_int Try.underlying3 (hval 1 3 v1 rfl rfl) h1
  have k2 := h2
  have lt2 : ∀ x ∈ p2, x.block < W.heap.size := by obtain ⟨m, hm⟩ := k2; exact DataW.trod_lt m _ _ _ hm
  obtain ⟨l2, hl2, rfl⟩ := arr_open (n := 12) Try.underlying33 Try.underlying5 (by kernel_rfl) (by kernel_rfl) (hval 2 33 v2 rfl rfl) h2
  have k3 := h3
  have lt3 : ∀ x ∈ p3, x.block < W.heap.size := by obtain ⟨m, hm⟩ := k3; exact DataW.trod_lt m _ _ _ hm
  obtain ⟨a3, len3, cap3, rfl⟩ := okWide_slice Try.underlying22 (hval 3 22 v3 rfl rfl)
  obtain ⟨b3, H3⟩ : ∃ l, Bs W (.slice a3 len3 cap3) l := by
    obtain ⟨fuel, hf⟩ := h3
    rcases open_ints Try.underlying22 Try.underlying5 (by kernel_rfl) hf with ⟨hcs, _⟩ | ⟨x, l, c, zs, hcs, _, hl, hm, hz, _, hcell, hwz⟩
    · simp [Value.cells] at hcs
      obtain ⟨rfl, rfl, rfl⟩ := hcs
      exact ⟨[], Row.nil W⟩
    · simp [Value.cells] at hcs
      obtain ⟨rfl, rfl, rfl⟩ := hcs
      exact bs_open hl hm (by simpa using hz) hcell hwz
  have k4 := h4
  have lt4 : ∀ x ∈ p4, x.block < W.heap.size := by obtain ⟨m, hm⟩ := k4; exact DataW.trod_lt m _ _ _ hm
  obtain ⟨a4, rfl, rfl, rfl, w4⟩ := open_int Try.underlying3 (hval 4 3 v4 rfl rfl) h4
  clear hA0 hval0
  refine Calls.mono (ChachaShort_c l0 a1 l2 (.slice a3 len3 cap3) b3 a4 W hl0 (rng_i64 w1) hl2 H3 (rng_i64 w4)) fun e W' ⟨v', he, hv, bel⟩ => ?_
  subst he
  subst hv
  exact ⟨_, rfl, _, _, _, [], _, [], hW', trodAll_mk1 (shut_bool Try.underlying4 _), (trodAll_cons_mk (Below.trod laidOut (by kernel_rfl) (of_decide_eq_true (by kernel_rfl)) k0 bel lt0) (trodAll_cons_mk (Below.trod laidOut (by kernel_rfl) (of_decide_eq_true (by kernel_rfl)) k1 bel lt1) (trodAll_cons_mk (Below.trod laidOut (by kernel_rfl) (of_decide_eq_true (by kernel_rfl)) k2 bel lt2) (trodAll_cons_mk (Below.trod laidOut (by kernel_rfl) (of_decide_eq_true (by kernel_rfl)) k3 bel lt3) (trodAll_cons_mk (Below.trod laidOut (by kernel_rfl) (of_decide_eq_true (by kernel_rfl)) k4 bel lt4) trodAll_mk0))))), rfl, bel.frame _, fun h => by cases h⟩
theorem over : Rows.chachaShortRow.holds Try.pinned (OpenSpec.ofChange Rows.chachaShortSpec) :=
  OpenClaim.holds_of_wide 7 Try.f7 rfl rfl rfl rfl rfl rfl rfl ⟨rfl, rfl, rfl, rfl, rfl⟩ rfl rfl rfl rfl rfl (by kernel_rfl) Try.func7 (by kernel_rfl)
    (of_decide_eq_true (by kernel_rfl)) (by unfold Func.isWrapper; first | (rw [if_pos (by decide +kernel)]; kernel_rfl) | (rw [if_neg (by decide +kernel)]; exact ⟨rfl, rfl⟩))
    (fun os started H enc _ => lifted os started H enc)
end Go.Proofs.Ytanlbploeifhpaa.chachaShort
namespace Go.Proofs.Ytanlbploeifhpaa
theorem ChachaShort_holds : Rows.ChachaShortSaid := chachaShort.over
end Go.Proofs.Ytanlbploeifhpaa
