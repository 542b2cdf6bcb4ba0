/-
  A box whose tag has a bit turned is no box, whichever it is; nor is one of fewer than sixteen bytes.
  Its conditions: none: whatever the input, in whatever memory.
-/
import Derived.Test.YtlhaojpkejpgfaaRows
import Derived.Test.YtlhaojpkejpgfaaWalksC
import Derived.ProofKit
import Derived.OpenShut
import Derived.ShutString
import Derived.ChangeOld
set_option linter.unusedVariables false
set_option linter.unusedSimpArgs false
namespace Go.Proofs.Ytlhaojpkejpgfaa.aeadTags
open Go.ChangeShapes Go.WideShapes Go.ChangeAt Go.RowKit Go.Ecal
open Go.ChangeMaps (open_string shut_string)
set_option maxRecDepth 100000 in
set_option maxHeartbeats 4000000 in
theorem AeadTags_c (k : List UInt8) (n : List UInt8) (v2 : Value) (o : List UInt8) (v3 : Value) (t : List UInt8) (at1 : Int) (w : World) (hk : k.length = 32) (hn : n.length = 12) (H2 : Bs w v2 o) (H3 : Bs w v3 t) (ha : -9223372036854775808 ≤ at1 ∧ at1 ≤ 9223372036854775807) : Ret Try.prog 5 [.agg (k.map byt).toArray, .agg (n.map byt).toArray, v2, v3, .int .i64 at1] w fun v w' => v = .bool true ∧ Below w.heap.size w w' := by
  refine ret_E Try.func5 rfl Try.ntmps5 (by simp) ?_
  refine EC_seq ?_
  refine EC_reg ?_
  refine EL_box (k.map byt) rfl rfl rfl ?_
  intro b11 w12 k13 A14 B15 z16
  have B18 : Below w.heap.size w w12 := B15
  have R17 : Bs w12 (.slice (some ⟨b11, 0, none⟩) 32 32) k := barr_row A14 (by omega) (by decide)
  refine EL_box (n.map byt) rfl rfl rfl ?_
  intro b19 w20 k21 A22 B23 z24
  have B26 : Below w.heap.size w w20 := below_full B18 B18.size B23
  have B27 : Below w12.heap.size w12 w20 := B23
  have R25 : Bs w20 (.slice (some ⟨b19, 0, none⟩) 12 12) n := barr_row A22 (by omega) (by decide)
  refine EL_val (.bool false) w20 rfl (r_assign rfl) ?_
  refine EL_nil ?_
  refine thn_n ?_
  refine EC_seq ?_
  refine EC_seq ?_
  refine EC_reg ?_
  refine EL_ret [] rfl Try.func9 rfl nm9 rfl (anchor_c w20) ?_
  rintro _ w28 ⟨rfl, B29⟩
  have B30 : Below w.heap.size w w28 := below_full B26 B26.size B29
  have B31 : Below w12.heap.size w12 w28 := below_full B27 B27.size B29
  have B32 : Below w20.heap.size w20 w28 := B29
  refine EL_val (.bool false) w28 rfl (r_dec (show (!true) = false from rfl) (r_not rfl)) ?_
  refine EL_nil ?_
  refine thn_n ?_
  refine EC_cond_false rfl ?_
  refine EC_skip ?_
  refine thn_n ?_
  refine EC_seq ?_
  refine EC_seq ?_
  refine EC_reg ?_
  refine EL_val v2 w28 rfl (r_move rfl) ?_
  refine EL_val (.int .i64 (o.length : Int)) w28 rfl (lenB (r_len rfl (H2.below B30) Try.underlying22)) ?_
  refine EL_val (.bool (decide (100 < (o.length : Int)))) w28 rfl (r_gtr rfl rfl) ?_
  refine EL_val (.bool (decide (100 < (o.length : Int)))) w28 rfl (r_move rfl) ?_
  refine EL_gite 22 rfl rfl rfl v3 rfl (fun g33 => r_move rfl) ?_
  refine EL_gite 22 rfl rfl rfl (.int .i64 (t.length : Int)) rfl (fun g34 => lenB (r_len (cond_of g34 rfl) (H3.below B30) Try.underlying22)) ?_
  refine EL_gite 22 rfl rfl rfl (.bool (decide (200 < (t.length : Int)))) rfl (fun g35 => r_gtr (cond_of g35 rfl) rfl) ?_
  refine EL_val (.bool ((decide (100 < (o.length : Int))) || (decide (200 < (t.length : Int))))) w28 rfl (r_or rfl rfl rfl) ?_
  refine EL_val (.bool ((decide (100 < (o.length : Int))) || (decide (200 < (t.length : Int))))) w28 rfl (r_move rfl) ?_
  refine EL_gite 27 rfl rfl rfl (.int .i64 at1) rfl (fun g36 => r_move rfl) ?_
  refine EL_gite 27 rfl rfl rfl (.bool (decide (at1 < 0))) rfl (fun g37 => r_lss (cond_of g37 rfl) rfl) ?_
  refine EL_val (.bool (((decide (100 < (o.length : Int))) || (decide (200 < (t.length : Int)))) || (decide (at1 < 0)))) w28 rfl (r_or rfl rfl rfl) ?_
  refine EL_nil ?_
  refine thn_n ?_
  refine EC_cond (t := ((decide (100 < (o.length : Int))) || (decide (200 < (t.length : Int)))) || (decide (at1 < 0))) rfl (fun h38 => ?_) (fun h38 => ?_)
  · simp at h38
    refine EC_seq ?_
    refine EC_reg ?_
    refine EL_val (.bool true) w28 rfl (r_assign rfl) ?_
    refine EL_nil ?_
    refine thn_n ?_
    refine EC_ret ?_
    refine thn_r ?_
    refine fin1 Try.results5 (show _ = .bool true from rfl) ⟨_, rfl, ?_⟩
    exact ⟨rfl, B30⟩
  · simp at h38
    refine EC_skip ?_
    refine thn_n ?_
    refine EC_seq ?_
    refine EC_held (fun w' => Below w28.heap.size w28 w') (by kernel_rfl) ?_
    intro w39 B40 z41
    have B42 : Below w.heap.size w w39 := below_full B30 B30.size B40
    have B43 : Below w12.heap.size w12 w39 := below_full B31 B31.size B40
    have B44 : Below w20.heap.size w20 w39 := below_full B32 B32.size B40
    have B45 : Below w28.heap.size w28 w39 := B40
    refine EA_strong (fun w' => Below w39.heap.size w39 w') (fun _ hw => below_full B45 B45.size hw) ?_
    refine EA_take 0 rfl (by kernel_rfl) (by kernel_rfl) (by kernel_rfl) (.slice (some ⟨b11, 0, none⟩) 32 32) rfl (fun _ hw => r_sliceA rfl Try.underlying31 (by kernel_rfl)) (Below.refl _ _) ?_
    refine EA_take 1 rfl (by kernel_rfl) (by kernel_rfl) (by kernel_rfl) (.slice (some ⟨b19, 0, none⟩) 12 12) rfl (fun _ hw => r_sliceA rfl Try.underlying32 (by kernel_rfl)) (Below.refl _ _) ?_
    refine EA_take 2 rfl (by kernel_rfl) (by kernel_rfl) (by kernel_rfl) v2 rfl (fun _ hw => r_move rfl) (Below.refl _ _) ?_
    refine EA_take 3 rfl (by kernel_rfl) (by kernel_rfl) (by kernel_rfl) v3 rfl (fun _ hw => r_move rfl) (Below.refl _ _) ?_
    refine EA_call 4 rfl (by kernel_rfl) [.slice (some ⟨b11, 0, none⟩) 32 32, .slice (some ⟨b19, 0, none⟩) 12 12, v2, v3] (.inl rfl) rfl Try.func10 rfl nm10 rfl (Seal_ok (.slice (some ⟨b11, 0, none⟩) 32 32) k (.slice (some ⟨b19, 0, none⟩) 12 12) n v2 o v3 t w39 (R17.below B43) (R25.below B44) (H2.below B42) (H3.below B42) (by first | omega | (simp; done) | (simp; omega)) (by first | omega | (simp; done) | (simp; omega)) (by first | omega | (simp; done) | (simp; omega)) (by first | omega | (simp; done) | (simp; omega))) ?_
    rintro _ w49 ⟨p46, rfl, O47, B48⟩
    have B50 : Below w.heap.size w w49 := below_full B42 B42.size B48
    have B51 : Below w12.heap.size w12 w49 := below_full B43 B43.size B48
    have B52 : Below w20.heap.size w20 w49 := below_full B44 B44.size B48
    have B53 : Below w28.heap.size w28 w49 := below_full B45 B45.size B48
    have B54 : Below w39.heap.size w39 w49 := B48
    refine ⟨B54, ?_⟩
    refine EA_strong (fun w' => Below w49.heap.size w49 w') (fun _ hw => below_full B54 B54.size hw) ?_
    have L55 := box_len k n o t
    refine EA_take 5 rfl (by kernel_rfl) (by kernel_rfl) (by kernel_rfl) (.tuple #[p46, .int .i64 0]) rfl (fun _ hw => r_move rfl) (Below.refl _ _) ?_
    refine EA_take 6 rfl (by kernel_rfl) (by kernel_rfl) (by kernel_rfl) p46 rfl (fun _ hw => r_extract rfl rfl) (Below.refl _ _) ?_
    refine EA_take 7 rfl (by kernel_rfl) (by kernel_rfl) (by kernel_rfl) (.int .i64 0) rfl (fun _ hw => r_extract rfl rfl) (Below.refl _ _) ?_
    refine EA_take 8 rfl (by kernel_rfl) (by kernel_rfl) (by kernel_rfl) p46 rfl (fun _ hw => r_assign rfl) (Below.refl _ _) ?_
    refine EA_take 9 rfl (by kernel_rfl) (by kernel_rfl) (by kernel_rfl) (.int .i64 0) rfl (fun _ hw => r_assign rfl) (Below.refl _ _) ?_
    refine EA_done (by kernel_rfl) ?_
    refine thn_n ?_
    refine EC_seq ?_
    refine EC_seq ?_
    refine EC_reg ?_
    refine EL_val (.int .i64 0) w49 rfl (r_move rfl) ?_
    refine EL_val (.bool false) w49 rfl (r_dec (by decide) (r_neq rfl rfl)) ?_
    refine EL_nil ?_
    refine thn_n ?_
    refine EC_cond_false rfl ?_
    refine EC_skip ?_
    refine thn_n ?_
    refine EC_seq ?_
    refine EC_tail 14 (by kernel_rfl) (by kernel_rfl) ?_
    intro w56 B57 z58
    have B59 : Below w.heap.size w w56 := below_full B50 B50.size B57
    have B60 : Below w12.heap.size w12 w56 := below_full B51 B51.size B57
    have B61 : Below w20.heap.size w20 w56 := below_full B52 B52.size B57
    have B62 : Below w28.heap.size w28 w56 := below_full B53 B53.size B57
    have B63 : Below w39.heap.size w39 w56 := below_full B54 B54.size B57
    have B64 : Below w49.heap.size w49 w56 := B57
    refine ES_val p46 rfl (r_move rfl) ?_
    refine ES_val v3 rfl (r_move rfl) ?_
    refine ES_val (.int .i64 (t.length : Int)) rfl (lenB (r_len rfl (H3.below B59) Try.underlying22)) ?_
    refine ES_val (.int .i64 at1) rfl (r_move rfl) ?_
    refine ES_int (at1 / 8) rfl (r_quoi rfl rfl (by omega) (by omega)) ?_
    intro x65 hx65
    refine ES_int (x65 % 16) rfl (r_remi rfl rfl (by omega) (by omega)) ?_
    intro x66 hx66
    refine ES_int ((t.length : Int) + x66) rfl (r_addi rfl rfl (by omega)) ?_
    intro x67 hx67
    refine ES_val (.pointer (some (at_ p46 ((x67 : Int).toNat)))) rfl (r_index rfl ((own_row O47).below B64) rfl (by omega) (by first | omega | (simp; omega) | simp) Try.underlying22 (by kernel_rfl)) ?_
    obtain ⟨b68, hb69⟩ := get_some (l := box k n o t) (j := (x67 : Int).toNat) (by omega)
    have hb70 := b68.toNat_lt
    refine ES_val (.int .u8 (b68.toNat : Int)) rfl (r_load rfl (((own_row O47).below B64).cell (bs_get hb69)) Try.underlying5 rfl) ?_
    refine ES_val (.int .i64 at1) rfl (r_move rfl) ?_
    refine ES_int (at1 % 8) rfl (r_remi rfl rfl (by omega) (by omega)) ?_
    intro x71 hx71
    have hbit := bitof_val (n := x71) (by omega)
    refine ES_val (.int .u8 ((bitof x71).toNat : Int)) rfl (r_bit rfl rfl (by omega)) ?_
    refine ES_val (.int .u8 ((b68 ^^^ (bitof x71)).toNat : Int)) rfl (r_xorb (a := b68) (b := (bitof x71)) rfl rfl) ?_
    refine ES_val (.pointer (some (at_ p46 ((x67 : Int).toNat)))) rfl (r_index rfl ((own_row O47).below B64) rfl (by omega) (by first | omega | (simp; omega) | simp) Try.underlying22 (by kernel_rfl)) ?_
    refine ES_nil ?_
    refine EL_store (u := byt (b68 ^^^ (bitof x71))) rfl rfl (own_below O47 B64) (by first | omega | (simp; omega)) rfl (by kernel_rfl) ?_
    intro w72 O73 G74 z75
    have O73' := own_set O73
    have B76 : Below w.heap.size w w72 := below_grew B59 G74 (own_below O47 B64) B42.size (B59.size)
    have B77 : Below w12.heap.size w12 w72 := below_grew B60 G74 (own_below O47 B64) B43.size (B60.size)
    have B78 : Below w20.heap.size w20 w72 := below_grew B61 G74 (own_below O47 B64) B44.size (B61.size)
    have B79 : Below w28.heap.size w28 w72 := below_grew B62 G74 (own_below O47 B64) B45.size (B62.size)
    have B80 : Below w39.heap.size w39 w72 := below_grew B63 G74 (own_below O47 B64) (Nat.le_refl _) (B63.size)
    have hbx := turned (by omega) hb69 hbit.2
    have hlb : ((box k n o t).set ((x67 : Int).toNat) (b68 ^^^ (bitof x71))).length = t.length + 16 := by simp only [List.length_set, box_len]
    refine EL_nil ?_
    refine thn_n ?_
    refine EC_seq ?_
    refine EC_held (fun w' => Below w72.heap.size w72 w') (by kernel_rfl) ?_
    intro w82 B83 z84
    have B85 : Below w.heap.size w w82 := below_full B76 B76.size B83
    have B86 : Below w12.heap.size w12 w82 := below_full B77 B77.size B83
    have B87 : Below w20.heap.size w20 w82 := below_full B78 B78.size B83
    have B88 : Below w28.heap.size w28 w82 := below_full B79 B79.size B83
    have B89 : Below w39.heap.size w39 w82 := below_full B80 B80.size B83
    have B90 : Below w72.heap.size w72 w82 := B83
    refine EA_strong (fun w' => Below w82.heap.size w82 w') (fun _ hw => below_full B90 B90.size hw) ?_
    refine EA_take 0 rfl (by kernel_rfl) (by kernel_rfl) (by kernel_rfl) (.slice (some ⟨b11, 0, none⟩) 32 32) rfl (fun _ hw => r_sliceA rfl Try.underlying31 (by kernel_rfl)) (Below.refl _ _) ?_
    refine EA_take 1 rfl (by kernel_rfl) (by kernel_rfl) (by kernel_rfl) (.slice (some ⟨b19, 0, none⟩) 12 12) rfl (fun _ hw => r_sliceA rfl Try.underlying32 (by kernel_rfl)) (Below.refl _ _) ?_
    refine EA_take 2 rfl (by kernel_rfl) (by kernel_rfl) (by kernel_rfl) v2 rfl (fun _ hw => r_move rfl) (Below.refl _ _) ?_
    refine EA_take 3 rfl (by kernel_rfl) (by kernel_rfl) (by kernel_rfl) p46 rfl (fun _ hw => r_move rfl) (Below.refl _ _) ?_
    refine EA_call 4 rfl (by kernel_rfl) [.slice (some ⟨b11, 0, none⟩) 32 32, .slice (some ⟨b19, 0, none⟩) 12 12, v2, p46] (.inl rfl) rfl Try.func12 rfl nm12 rfl (Open_nobox (.slice (some ⟨b11, 0, none⟩) 32 32) k (.slice (some ⟨b19, 0, none⟩) 12 12) n v2 o p46 ((box k n o t).set ((x67 : Int).toNat) (b68 ^^^ (bitof x71))) w82 (R17.below B86) (R25.below B87) (H2.below B85) ((own_row O73').below B90) (by first | omega | (simp; done) | (simp; omega)) (by first | omega | (simp; done) | (simp; omega)) (by first | omega | (simp; done) | (simp; omega)) (by first | omega | (rw [box_len]; decide) | (simp; done) | (simp; omega)) hbx) ?_
    rintro _ w91 ⟨rfl, B92⟩
    have B93 : Below w.heap.size w w91 := below_full B85 B85.size B92
    have B94 : Below w12.heap.size w12 w91 := below_full B86 B86.size B92
    have B95 : Below w20.heap.size w20 w91 := below_full B87 B87.size B92
    have B96 : Below w28.heap.size w28 w91 := below_full B88 B88.size B92
    have B97 : Below w39.heap.size w39 w91 := below_full B89 B89.size B92
    have B98 : Below w72.heap.size w72 w91 := below_full B90 B90.size B92
    have B99 : Below w82.heap.size w82 w91 := B92
    refine ⟨B99, ?_⟩
    refine EA_strong (fun w' => Below w91.heap.size w91 w') (fun _ hw => below_full B99 B99.size hw) ?_
    refine EA_take 5 rfl (by kernel_rfl) (by kernel_rfl) (by kernel_rfl) (.tuple #[.slice none 0 0, .int .i64 20]) rfl (fun _ hw => r_move rfl) (Below.refl _ _) ?_
    refine EA_take 6 rfl (by kernel_rfl) (by kernel_rfl) (by kernel_rfl) (.slice none 0 0) rfl (fun _ hw => r_extract rfl rfl) (Below.refl _ _) ?_
    refine EA_take 7 rfl (by kernel_rfl) (by kernel_rfl) (by kernel_rfl) (.int .i64 20) rfl (fun _ hw => r_extract rfl rfl) (Below.refl _ _) ?_
    refine EA_take 8 rfl (by kernel_rfl) (by kernel_rfl) (by kernel_rfl) (.slice none 0 0) rfl (fun _ hw => r_assign rfl) (Below.refl _ _) ?_
    refine EA_take 9 rfl (by kernel_rfl) (by kernel_rfl) (by kernel_rfl) (.int .i64 20) rfl (fun _ hw => r_assign rfl) (Below.refl _ _) ?_
    refine EA_done (by kernel_rfl) ?_
    refine thn_n ?_
    refine EC_seq ?_
    refine EC_held (fun w' => Below w91.heap.size w91 w') (by kernel_rfl) ?_
    intro w100 B101 z102
    have B103 : Below w.heap.size w w100 := below_full B93 B93.size B101
    have B104 : Below w12.heap.size w12 w100 := below_full B94 B94.size B101
    have B105 : Below w20.heap.size w20 w100 := below_full B95 B95.size B101
    have B106 : Below w28.heap.size w28 w100 := below_full B96 B96.size B101
    have B107 : Below w39.heap.size w39 w100 := below_full B97 B97.size B101
    have B108 : Below w72.heap.size w72 w100 := below_full B98 B98.size B101
    have B109 : Below w82.heap.size w82 w100 := below_full B99 B99.size B101
    have B110 : Below w91.heap.size w91 w100 := B101
    refine EA_strong (fun w' => Below w100.heap.size w100 w') (fun _ hw => below_full B110 B110.size hw) ?_
    refine EA_take 0 rfl (by kernel_rfl) (by kernel_rfl) (by kernel_rfl) (.slice (some ⟨b11, 0, none⟩) 32 32) rfl (fun _ hw => r_sliceA rfl Try.underlying31 (by kernel_rfl)) (Below.refl _ _) ?_
    refine EA_take 1 rfl (by kernel_rfl) (by kernel_rfl) (by kernel_rfl) (.slice (some ⟨b19, 0, none⟩) 12 12) rfl (fun _ hw => r_sliceA rfl Try.underlying32 (by kernel_rfl)) (Below.refl _ _) ?_
    refine EA_take 2 rfl (by kernel_rfl) (by kernel_rfl) (by kernel_rfl) v2 rfl (fun _ hw => r_move rfl) (Below.refl _ _) ?_
    refine EA_take 3 rfl (by kernel_rfl) (by kernel_rfl) (by kernel_rfl) p46 rfl (fun _ hw => r_move rfl) (Below.refl _ _) ?_
    refine EA_take 4 rfl (by kernel_rfl) (by kernel_rfl) (by kernel_rfl) (.int .i64 at1) rfl (fun _ hw => r_move rfl) (Below.refl _ _) ?_
    refine EA_take 5 rfl (by kernel_rfl) (by kernel_rfl) (by kernel_rfl) (.int .i64 (at1 % 16)) rfl (fun _ hw => r_remi rfl rfl (by omega) (by omega)) (Below.refl _ _) ?_
    refine EA_take 6 rfl (by kernel_rfl) (by kernel_rfl) (by kernel_rfl) (cutV p46 0 ((at1 % 16 : Int).toNat)) rfl (fun _ hw => r_slice rfl (((own_row O73').below B108).below hw) Try.underlying22 (by kernel_rfl) 0 ((at1 % 16 : Int).toNat) (by first | omega | (simp; omega) | simp) (by first | omega | (simp; omega) | simp) (.inl ⟨rfl, rfl⟩) (.inr ⟨_, _, rfl, (show _ = Value.int .i64 ((at1 % 16 : Int).toNat : Int) from by rw [Int.toNat_of_nonneg (by omega)]; exact rfl)⟩)) (Below.refl _ _) ?_
    have R112 : Bs w72 (cutV p46 0 ((at1 % 16 : Int).toNat)) (((box k n o t).set ((x67 : Int).toNat) (b68 ^^^ (bitof x71))).take ((at1 % 16 : Int).toNat)) := Bs.upto (own_row O73') ((at1 % 16 : Int).toNat) (by first | omega | (simp; omega) | simp)
    have L113 : (((box k n o t).set ((x67 : Int).toNat) (b68 ^^^ (bitof x71))).take ((at1 % 16 : Int).toNat)).length = ((at1 % 16 : Int).toNat) - 0 := by first | (simp; done) | (simp; omega)
    refine EA_call 7 rfl (by kernel_rfl) [.slice (some ⟨b11, 0, none⟩) 32 32, .slice (some ⟨b19, 0, none⟩) 12 12, v2, (cutV p46 0 ((at1 % 16 : Int).toNat))] (.inl rfl) rfl Try.func12 rfl nm12 rfl (Open_nobox (.slice (some ⟨b11, 0, none⟩) 32 32) k (.slice (some ⟨b19, 0, none⟩) 12 12) n v2 o (cutV p46 0 ((at1 % 16 : Int).toNat)) (((box k n o t).set ((x67 : Int).toNat) (b68 ^^^ (bitof x71))).take ((at1 % 16 : Int).toNat)) w100 (R17.below B104) (R25.below B105) (H2.below B103) (R112.below B108) (by first | omega | (simp; done) | (simp; omega)) (by first | omega | (simp; done) | (simp; omega)) (by first | omega | (simp; done) | (simp; omega)) (by first | omega | (rw [box_len]; decide) | (simp; done) | (simp; omega)) (short_no (by simp; omega))) ?_
    rintro _ w114 ⟨rfl, B115⟩
    have B116 : Below w.heap.size w w114 := below_full B103 B103.size B115
    have B117 : Below w12.heap.size w12 w114 := below_full B104 B104.size B115
    have B118 : Below w20.heap.size w20 w114 := below_full B105 B105.size B115
    have B119 : Below w28.heap.size w28 w114 := below_full B106 B106.size B115
    have B120 : Below w39.heap.size w39 w114 := below_full B107 B107.size B115
    have B121 : Below w72.heap.size w72 w114 := below_full B108 B108.size B115
    have B122 : Below w82.heap.size w82 w114 := below_full B109 B109.size B115
    have B123 : Below w91.heap.size w91 w114 := below_full B110 B110.size B115
    have B124 : Below w100.heap.size w100 w114 := B115
    refine ⟨B124, ?_⟩
    refine EA_strong (fun w' => Below w114.heap.size w114 w') (fun _ hw => below_full B124 B124.size hw) ?_
    refine EA_take 8 rfl (by kernel_rfl) (by kernel_rfl) (by kernel_rfl) (.tuple #[.slice none 0 0, .int .i64 20]) rfl (fun _ hw => r_move rfl) (Below.refl _ _) ?_
    refine EA_take 9 rfl (by kernel_rfl) (by kernel_rfl) (by kernel_rfl) (.slice none 0 0) rfl (fun _ hw => r_extract rfl rfl) (Below.refl _ _) ?_
    refine EA_take 10 rfl (by kernel_rfl) (by kernel_rfl) (by kernel_rfl) (.int .i64 20) rfl (fun _ hw => r_extract rfl rfl) (Below.refl _ _) ?_
    refine EA_take 11 rfl (by kernel_rfl) (by kernel_rfl) (by kernel_rfl) (.slice none 0 0) rfl (fun _ hw => r_assign rfl) (Below.refl _ _) ?_
    refine EA_take 12 rfl (by kernel_rfl) (by kernel_rfl) (by kernel_rfl) (.int .i64 20) rfl (fun _ hw => r_assign rfl) (Below.refl _ _) ?_
    refine EA_done (by kernel_rfl) ?_
    refine thn_n ?_
    refine EC_seq ?_
    refine EC_reg ?_
    refine EL_val (.int .i64 20) w114 rfl (r_move rfl) ?_
    refine EL_val (.bool true) w114 rfl (r_dec (by decide) (r_eql rfl rfl)) ?_
    refine EL_val (.bool true) w114 rfl (r_move rfl) ?_
    refine EL_gval 76 rfl rfl rfl rfl (.int .i64 20) w114 rfl (r_move rfl) ?_
    refine EL_gval 76 rfl rfl rfl rfl (.bool true) w114 rfl (r_dec (by decide) (r_eql rfl rfl)) ?_
    refine EL_val (.bool true) w114 rfl (r_pickT rfl rfl) ?_
    refine EL_val (.bool true) w114 rfl (r_move rfl) ?_
    refine EL_gval 80 rfl rfl rfl rfl (.slice none 0 0) w114 rfl (r_move rfl) ?_
    refine EL_gval 80 rfl rfl rfl rfl (.int .i64 0) w114 rfl (r_asn (show ((([] : List UInt8).length : Nat) : Int) = 0 from rfl) (lenB (r_len rfl (Row.nil _) Try.underlying22))) ?_
    refine EL_gval 80 rfl rfl rfl rfl (.slice none 0 0) w114 rfl (r_move rfl) ?_
    refine EL_gval 80 rfl rfl rfl rfl (.int .i64 0) w114 rfl (r_asn (show ((([] : List UInt8).length : Nat) : Int) = 0 from rfl) (lenB (r_len rfl (Row.nil _) Try.underlying22))) ?_
    refine EL_gval 80 rfl rfl rfl rfl (.int .i64 0) w114 rfl (r_asn (by kernel_rfl) (r_add rfl rfl)) ?_
    refine EL_gval 80 rfl rfl rfl rfl (.bool true) w114 rfl (r_dec (by decide) (r_eql rfl rfl)) ?_
    refine EL_val (.bool true) w114 rfl (r_pickT rfl rfl) ?_
    refine EL_val (.bool true) w114 rfl (r_assign rfl) ?_
    refine EL_nil ?_
    refine thn_n ?_
    refine EC_ret ?_
    refine fin1 Try.results5 (show _ = .bool true from rfl) ⟨_, rfl, ?_⟩
    exact ⟨rfl, B116⟩
theorem own : ownKnob Try.prog.godebug = none := by kernel_rfl
theorem laidOut : laidOutB Try.prog = true := by kernel_rfl
set_option maxRecDepth 100000 in
theorem lifted (os : Os) (started : os.Started) (H : Type) (enc : TypeId × Value → H) :
    ReturnsInHanded {} Try.checked os 5 .any (Rows.aeadTagsSpec.pre6 enc Try.prog Try.f5 Rows.aeadTagsRow.domain false) (Rows.aeadTagsSpec.post enc Try.prog Try.f5 false true false false) := by
  refine returnsInHanded_of_change (C := Try.checked) own started (by kernel_rfl) Try.func5
    (ChangeSpec.witness6 (enc := enc) (C := Try.checked) false ⟨#[], #[.agg #[.int .u8 0, .int .u8 0, .int .u8 0, .int .u8 0, .int .u8 0, .int .u8 0, .int .u8 0, .int .u8 0, .int .u8 0, .int .u8 0, .int .u8 0, .int .u8 0, .int .u8 0, .int .u8 0, .int .u8 0, .int .u8 0, .int .u8 0, .int .u8 0, .int .u8 0, .int .u8 0, .int .u8 0, .int .u8 0, .int .u8 0, .int .u8 0, .int .u8 0, .int .u8 0, .int .u8 0, .int .u8 0, .int .u8 0, .int .u8 0, .int .u8 0, .int .u8 0], .agg #[.int .u8 0, .int .u8 0, .int .u8 0, .int .u8 0, .int .u8 0, .int .u8 0, .int .u8 0, .int .u8 0, .int .u8 0, .int .u8 0, .int .u8 0, .int .u8 0], .slice none 0 0, .slice none 0 0, .int .i64 0], []⟩ 8 (by kernel_rfl) (by kernel_rfl) (by kernel_rfl) (by kernel_rfl)) ?_
  intro W base args ds gs before hval0 hW hcnd _
  have hval : ∀ (j : Nat) t v, Try.f5.params[j]? = some t → args[j]? = some v → Value.okWide Try.prog W .any base t v := hval0
  have hW' := hW
  obtain ⟨p, q, hA0, hV, rfl, hfz, hnd⟩ := hW
  have hA : DataW.TrodAll enc Try.prog W 0 (fun _ => true) true Try.f5.params.toList args.toList ds p := hA0
  rw [Try.params5] at hA hval
  obtain ⟨v0, vs0, d0, ds0, p0, q0, hargs, rfl, rfl, h0, r0⟩ := trodAll_cons hA
  obtain ⟨v1, vs1, d1, ds1, p1, q1, rfl, rfl, rfl, h1, r1⟩ := trodAll_cons r0
  obtain ⟨v2, vs2, d2, ds2, p2, q2, rfl, rfl, rfl, h2, r2⟩ := trodAll_cons r1
  obtain ⟨v3, vs3, d3, ds3, p3, q3, rfl, rfl, rfl, h3, r3⟩ := trodAll_cons r2
  obtain ⟨v4, vs4, d4, ds4, p4, q4, rfl, rfl, rfl, h4, r4⟩ := trodAll_cons r3
  obtain ⟨rfl, rfl, rfl⟩ := trodAll_nil r4
  obtain rfl : args = #[v0, v1, v2, v3, v4] := by cases args; simp_all
  obtain ⟨rfl, rfl⟩ := trodVars_none hV
  have k0 := h0
  have lt0 : ∀ x ∈ p0, x.block < W.heap.size := by obtain ⟨m, hm⟩ := k0; exact DataW.trod_lt m _ _ _ hm
  obtain ⟨l0, hl0, rfl⟩ := arr_open (n := 32) Try.underlying31 Try.underlying5 (by kernel_rfl) (by kernel_rfl) (hval 0 31 v0 rfl rfl) h0
  have k1 := h1
  have lt1 : ∀ x ∈ p1, x.block < W.heap.size := by obtain ⟨m, hm⟩ := k1; exact DataW.trod_lt m _ _ _ hm
  obtain ⟨l1, hl1, rfl⟩ := arr_open (n := 12) Try.underlying32 Try.underlying5 (by kernel_rfl) (by kernel_rfl) (hval 1 32 v1 rfl rfl) h1
  have k2 := h2
  have lt2 : ∀ x ∈ p2, x.block < W.heap.size := by obtain ⟨m, hm⟩ := k2; exact DataW.trod_lt m _ _ _ hm
  obtain ⟨a2, len2, cap2, rfl⟩ := okWide_slice Try.underlying22 (hval 2 22 v2 rfl rfl)
  obtain ⟨b2, H2⟩ : ∃ l, Bs W (.slice a2 len2 cap2) l := by
    obtain ⟨fuel, hf⟩ := h2
    rcases open_ints Try.underlying22 Try.underlying5 (by kernel_rfl) hf with ⟨hcs, _⟩ | ⟨x, l, c, zs, hcs, _, hl, hm, hz, _, hcell, hwz⟩
    · simp [Value.cells] at hcs
      obtain ⟨rfl, rfl, rfl⟩ := hcs
      exact ⟨[], Row.nil W⟩
    · simp [Value.cells] at hcs
      obtain ⟨rfl, rfl, rfl⟩ := hcs
      exact bs_open hl hm (by simpa using hz) hcell hwz
  have k3 := h3
  have lt3 : ∀ x ∈ p3, x.block < W.heap.size := by obtain ⟨m, hm⟩ := k3; exact DataW.trod_lt m _ _ _ hm
  obtain ⟨a3, len3, cap3, rfl⟩ := okWide_slice Try.underlying22 (hval 3 22 v3 rfl rfl)
  obtain ⟨b3, H3⟩ : ∃ l, Bs W (.slice a3 len3 cap3) l := by
    obtain ⟨fuel, hf⟩ := h3
    rcases open_ints Try.underlying22 Try.underlying5 (by kernel_rfl) hf with ⟨hcs, _⟩ | ⟨x, l, c, zs, hcs, _, hl, hm, hz, _, hcell, hwz⟩
    · simp [Value.cells] at hcs
      obtain ⟨rfl, rfl, rfl⟩ := hcs
      exact ⟨[], Row.nil W⟩
    · simp [Value.cells] at hcs
      obtain ⟨rfl, rfl, rfl⟩ := hcs
      exact bs_open hl hm (by simpa using hz) hcell hwz
  have k4 := h4
  have lt4 : ∀ x ∈ p4, x.block < W.heap.size := by obtain ⟨m, hm⟩ := k4; exact DataW.trod_lt m _ _ _ hm
  obtain ⟨a4, rfl, rfl, rfl, w4⟩ := open_int Try.underlying3 (hval 4 3 v4 rfl rfl) h4
  clear hA0 hval0
  refine Calls.mono (AeadTags_c l0 l1 (.slice a2 len2 cap2) b2 (.slice a3 len3 cap3) b3 a4 W hl0 hl1 H2 H3 (rng_i64 w4)) fun e W' ⟨v', he, hv, bel⟩ => ?_
  subst he
  subst hv
  exact ⟨_, rfl, _, _, _, [], _, [], hW', trodAll_mk1 (shut_bool Try.underlying4 _), (trodAll_cons_mk (Below.trod laidOut (by kernel_rfl) (of_decide_eq_true (by kernel_rfl)) k0 bel lt0) (trodAll_cons_mk (Below.trod laidOut (by kernel_rfl) (of_decide_eq_true (by kernel_rfl)) k1 bel lt1) (trodAll_cons_mk (Below.trod laidOut (by kernel_rfl) (of_decide_eq_true (by kernel_rfl)) k2 bel lt2) (trodAll_cons_mk (Below.trod laidOut (by kernel_rfl) (of_decide_eq_true (by kernel_rfl)) k3 bel lt3) (trodAll_cons_mk (Below.trod laidOut (by kernel_rfl) (of_decide_eq_true (by kernel_rfl)) k4 bel lt4) trodAll_mk0))))), rfl, bel.frame _, fun h => by cases h⟩
theorem over : Rows.aeadTagsRow.holds Try.pinned (OpenSpec.ofChange Rows.aeadTagsSpec) :=
  OpenClaim.holds_of_wide 5 Try.f5 rfl rfl rfl rfl rfl rfl rfl ⟨rfl, rfl, rfl, rfl, rfl⟩ rfl rfl rfl rfl rfl (by kernel_rfl) Try.func5 (by kernel_rfl)
    (of_decide_eq_true (by kernel_rfl)) (by unfold Func.isWrapper; first | (rw [if_pos (by decide +kernel)]; kernel_rfl) | (rw [if_neg (by decide +kernel)]; exact ⟨rfl, rfl⟩))
    (fun os started H enc _ => lifted os started H enc)
end Go.Proofs.Ytlhaojpkejpgfaa.aeadTags
namespace Go.Proofs.Ytlhaojpkejpgfaa
theorem AeadTags_holds : Rows.AeadTagsSaid := aeadTags.over
end Go.Proofs.Ytlhaojpkejpgfaa
