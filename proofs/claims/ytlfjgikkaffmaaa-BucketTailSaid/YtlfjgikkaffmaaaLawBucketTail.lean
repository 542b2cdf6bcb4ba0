/-
  A text in its bucket with any byte of its tail turned is none; so is one that stands in twice its bucket.
  Its conditions: none: whatever the input, in whatever memory.
-/
import Derived.Test.YtlfjgikkaffmaaaRows
import Derived.Test.YtlfjgikkaffmaaaWalks
import Derived.ProofKit
import Derived.OpenShut
import Derived.ShutString
import Derived.ChangeOld
set_option linter.unusedVariables false
set_option linter.unusedSimpArgs false
namespace Go.Proofs.Ytlfjgikkaffmaaa.bucketTail
open Go.ChangeShapes Go.WideShapes Go.ChangeAt Go.RowKit Go.Ecal
open Go.ChangeMaps (open_string shut_string)
theorem BucketTail_c (v0 : Value) (b : List UInt8) (n : Int) (x : UInt8) (w : World) (H0 : Bs w v0 b) (hn : -9223372036854775808 ≤ n ∧ n ≤ 9223372036854775807) : Ret Try.prog 7 [v0, .int .i64 n, .int .u8 (x.toNat : Int)] w fun v w' => v = .bool true ∧ Below w.heap.size w w' := by
  have hl := H0.len_le
  simp only [List.length_map] at hl
  refine ret_E Try.func7 rfl Try.ntmps7 (by simp) ?_
  refine EC_seq ?_
  refine EC_reg ?_
  refine EL_val (.bool false) w rfl (r_assign rfl) ?_
  refine EL_nil ?_
  refine thn_n ?_
  refine EC_seq ?_
  refine EC_seq ?_
  refine EC_reg ?_
  refine EL_ret [] rfl Try.func9 rfl nm9 rfl (anchor_c w) ?_
  rintro _ w1 ⟨rfl, B2⟩
  have B3 : Below w.heap.size w w1 := B2
  refine EL_val (.bool false) w1 rfl (r_dec (show (!true) = false from rfl) (r_not rfl)) ?_
  refine EL_nil ?_
  refine thn_n ?_
  refine EC_cond_false rfl ?_
  refine EC_skip ?_
  refine thn_n ?_
  refine EC_seq ?_
  refine EC_seq ?_
  refine EC_reg ?_
  refine EL_val v0 w1 rfl (r_move rfl) ?_
  refine EL_val (.int .i64 (b.length : Int)) w1 rfl (lenB (r_len rfl (H0.below B3) Try.underlying28)) ?_
  refine EL_val (.bool (decide (2046 < (b.length : Int)))) w1 rfl (r_gtr rfl rfl) ?_
  refine EL_val (.bool (decide (2046 < (b.length : Int)))) w1 rfl (r_move rfl) ?_
  refine EL_gite 19 rfl rfl rfl (.int .i64 n) rfl (fun g4 => r_move rfl) ?_
  refine EL_gite 19 rfl rfl rfl (.bool (decide (n < 0))) rfl (fun g5 => r_lss (cond_of g5 rfl) rfl) ?_
  refine EL_val (.bool ((decide (2046 < (b.length : Int))) || (decide (n < 0)))) w1 rfl (r_or rfl rfl rfl) ?_
  refine EL_val (.bool ((decide (2046 < (b.length : Int))) || (decide (n < 0)))) w1 rfl (r_move rfl) ?_
  refine EL_gite 23 rfl rfl rfl (.int .u8 (x.toNat : Int)) rfl (fun g6 => r_move rfl) ?_
  refine EL_gite 23 rfl rfl rfl (.bool (decide ((x.toNat : Int) = 0))) rfl (fun g7 => r_eql (cond_of g7 rfl) rfl) ?_
  refine EL_val (.bool (((decide (2046 < (b.length : Int))) || (decide (n < 0))) || (decide ((x.toNat : Int) = 0)))) w1 rfl (r_or rfl rfl rfl) ?_
  refine EL_nil ?_
  refine thn_n ?_
  refine EC_cond (t := ((decide (2046 < (b.length : Int))) || (decide (n < 0))) || (decide ((x.toNat : Int) = 0))) rfl (fun h8 => ?_) (fun h8 => ?_)
  · refine EC_seq ?_
    refine EC_reg ?_
    refine EL_val (.bool true) w1 rfl (r_assign rfl) ?_
    refine EL_nil ?_
    refine thn_n ?_
    refine EC_ret ?_
    refine thn_r ?_
    refine fin1 Try.results7 (show _ = .bool true from rfl) ⟨_, rfl, ?_⟩
    exact ⟨rfl, B3⟩
  · simp at h8
    obtain ⟨⟨h46, hn0⟩, hx0⟩ := h8
    have hb2 : b.length ≤ 2046 := by omega
    obtain ⟨hp1, hp2, hp3⟩ := bpad_len hb2
    have hp4 := bpad_most hb2
    have hx0 : x ≠ 0 := fun e => hx0 (by rw [e]; rfl)
    refine EC_skip ?_
    refine thn_n ?_
    refine EC_seq ?_
    refine EC_reg ?_
    refine EL_val v0 w1 rfl (r_move rfl) ?_
    refine EL_ret [v0] rfl Try.func12 rfl nm12 rfl (pad_ok v0 b w1 (H0.below B3) (by first | omega | (simp; done) | (simp; omega))) ?_
    rintro _ w12 ⟨p9, rfl, O10, B11⟩
    have B13 : Below w.heap.size w w12 := below_full B3 B3.size B11
    have B14 : Below w1.heap.size w1 w12 := B11
    refine EL_val (.tuple #[p9, .int .i64 0]) w12 rfl (r_move rfl) ?_
    refine EL_val p9 w12 rfl (r_extract rfl rfl) ?_
    refine EL_val (.int .i64 0) w12 rfl (r_extract rfl rfl) ?_
    refine EL_val p9 w12 rfl (r_assign rfl) ?_
    refine EL_val (.int .i64 0) w12 rfl (r_assign rfl) ?_
    refine EL_nil ?_
    refine thn_n ?_
    refine EC_seq ?_
    refine EC_seq ?_
    refine EC_reg ?_
    refine EL_val (.int .i64 0) w12 rfl (r_move rfl) ?_
    refine EL_val (.bool false) w12 rfl (r_dec (by decide) (r_neq rfl rfl)) ?_
    refine EL_nil ?_
    refine thn_n ?_
    refine EC_cond_false rfl ?_
    refine EC_skip ?_
    refine thn_n ?_
    refine EC_seq ?_
    refine EC_reg ?_
    refine EL_lit w12.heap.size #[] elB rfl (by decide) rfl (Nat.le_refl _) (by kernel_rfl) ?_
    intro v15 w16 O17 B18 k19 z20
    have B21 : Below w.heap.size w w16 := below_full B13 B13.size B18
    have B22 : Below w1.heap.size w1 w16 := below_full B14 B14.size B18
    have B23 : Below w12.heap.size w12 w16 := B18
    have O17' := own_eq (l := ([] : List UInt8)) O17 (by simp [bof_val, byt])
    refine EL_val p9 w16 rfl (r_move rfl) ?_
    refine EL_append (v := v15) (xs := ([] : List UInt8).map byt) (ys := (bpad b).map byt) w12.heap.size elB rfl rfl rfl (by simpa using O17') ((own_row O10).below B23) (byt_one _) (by first | (simp only [List.length_map, List.length_nil]; omega) | (simp; omega)) (by decide) B23.size ?_
    intro v24 w25 O26 G27 A28
    have O26' := own_app O26
    have B29 : Below w.heap.size w w25 := below_grew B21 G27 O17' B13.size (B21.size)
    have B30 : Below w1.heap.size w1 w25 := below_grew B22 G27 O17' B14.size (B22.size)
    have B31 : Below w12.heap.size w12 w25 := below_grew B23 G27 O17' (Nat.le_refl _) (B23.size)
    refine EL_val p9 w25 rfl (r_move rfl) ?_
    refine EL_val (.int .i64 ((bpad b).length : Int)) w25 rfl (lenB (r_len rfl ((own_row O10).below B31) Try.underlying28)) ?_
    refine EL_appendz (v := v24) (xs := (([] : List UInt8) ++ (bpad b)).map byt) elB rfl rfl Try.underlying3 w12.heap.size rfl rfl rfl (by omega) (by simpa using O26') (by first | (simp only [List.length_map, List.length_nil]; omega) | (simp; omega)) (by decide) B31.size ?_
    intro v33 w34 O35 G36 A37
    have O35' := own_appz O35
    have B38 : Below w.heap.size w w34 := below_grew B29 G36 O26' B13.size (B29.size)
    have B39 : Below w1.heap.size w1 w34 := below_grew B30 G36 O26' B14.size (B30.size)
    have B40 : Below w12.heap.size w12 w34 := below_grew B31 G36 O26' (Nat.le_refl _) (B31.size)
    refine EL_ret [v33] rfl Try.func13 rfl nm13 rfl (strip_none v33 ((([] : List UInt8) ++ (bpad b)) ++ List.replicate (((bpad b).length : Int) : Int).toNat (0 : UInt8)) w34 (own_row O35') (by have := bstrip_twice hb2 (List.replicate ((bpad b).length : Int).toNat 0) (by simp; omega); simpa using this)) ?_
    rintro _ w41 ⟨rfl, B42⟩
    have B43 : Below w.heap.size w w41 := below_full B38 B38.size B42
    have B44 : Below w1.heap.size w1 w41 := below_full B39 B39.size B42
    have B45 : Below w12.heap.size w12 w41 := below_full B40 B40.size B42
    have B46 : Below w34.heap.size w34 w41 := B42
    refine EL_val (.tuple #[.slice none 0 0, .int .i64 10]) w41 rfl (r_move rfl) ?_
    refine EL_val (.slice none 0 0) w41 rfl (r_extract rfl rfl) ?_
    refine EL_val (.int .i64 10) w41 rfl (r_extract rfl rfl) ?_
    refine EL_val (.slice none 0 0) w41 rfl (r_assign rfl) ?_
    refine EL_val (.int .i64 10) w41 rfl (r_assign rfl) ?_
    refine EL_nil ?_
    refine thn_n ?_
    refine EC_seq ?_
    refine EC_seq ?_
    refine EC_reg ?_
    refine EL_val p9 w41 rfl (r_move rfl) ?_
    refine EL_val (.int .i64 ((bpad b).length : Int)) w41 rfl (lenB (r_len rfl ((own_row O10).below B45) Try.underlying28)) ?_
    refine EL_int (((bpad b).length : Int) - 2) rfl (r_subi rfl rfl (by omega)) ?_
    intro x47 hx47
    refine EL_val v0 w41 rfl (r_move rfl) ?_
    refine EL_val (.int .i64 (b.length : Int)) w41 rfl (lenB (r_len rfl (H0.below B43) Try.underlying28)) ?_
    refine EL_int (x47 - (b.length : Int)) rfl (r_subi rfl rfl (by omega)) ?_
    intro x48 hx48
    refine EL_val (.int .i64 x48) w41 rfl (r_assign rfl) ?_
    refine EL_nil ?_
    refine thn_n ?_
    refine EC_seq ?_
    refine EC_reg ?_
    refine EL_val (.int .i64 x48) w41 rfl (r_move rfl) ?_
    refine EL_val (.bool (decide (0 < x48))) w41 rfl (r_gtr rfl rfl) ?_
    refine EL_nil ?_
    refine thn_n ?_
    refine EC_if (p := 0 < x48) rfl (fun h49 => ?_) (fun h49 => ?_)
    · refine EC_seq ?_
      refine EC_reg ?_
      refine EL_val p9 w41 rfl (r_move rfl) ?_
      refine EL_val v0 w41 rfl (r_move rfl) ?_
      refine EL_val (.int .i64 (b.length : Int)) w41 rfl (lenB (r_len rfl (H0.below B43) Try.underlying28)) ?_
      refine EL_int (2 + (b.length : Int)) rfl (r_addi rfl rfl (by omega)) ?_
      intro x50 hx50
      refine EL_val (.int .i64 n) w41 rfl (r_move rfl) ?_
      refine EL_val (.int .i64 x48) w41 rfl (r_move rfl) ?_
      refine EL_int (n % x48) rfl (r_remi rfl rfl (by omega) (by omega)) ?_
      intro x51 hx51
      have m52 := Int.emod_nonneg n (b := x48) (by omega)
      have m53 := Int.emod_lt_of_pos n (b := x48) (by omega)
      refine EL_int (x50 + x51) rfl (r_addi rfl rfl (by omega)) ?_
      intro x54 hx54
      refine EL_val (.pointer (some (at_ p9 ((x54 : Int).toNat)))) w41 rfl (r_index rfl ((own_row O10).below B45) rfl (by omega) (by first | omega | (simp; omega) | simp) Try.underlying28 (by kernel_rfl)) ?_
      obtain ⟨b55, hb56⟩ := get_some (l := bpad b) (j := (x54 : Int).toNat) (by omega)
      have hb57 := b55.toNat_lt
      refine EL_val (.int .u8 (b55.toNat : Int)) w41 rfl (r_load rfl (((own_row O10).below B45).cell (bs_get hb56)) Try.underlying5 rfl) ?_
      refine EL_val (.int .u8 (x.toNat : Int)) w41 rfl (r_move rfl) ?_
      refine EL_val (.int .u8 ((b55 ^^^ x).toNat : Int)) w41 rfl (r_xorb (a := b55) (b := x) rfl rfl) ?_
      refine EL_val (.pointer (some (at_ p9 ((x54 : Int).toNat)))) w41 rfl (r_index rfl ((own_row O10).below B45) rfl (by omega) (by first | omega | (simp; omega) | simp) Try.underlying28 (by kernel_rfl)) ?_
      refine EL_store (u := byt (b55 ^^^ x)) rfl rfl (own_below O10 B45) (by first | omega | (simp; omega)) rfl (by kernel_rfl) ?_
      intro w58 O59 G60 z61
      have O59' := own_set O59
      have B62 : Below w.heap.size w w58 := below_grew B43 G60 (own_below O10 B45) B3.size (B43.size)
      have B63 : Below w1.heap.size w1 w58 := below_grew B44 G60 (own_below O10 B45) (Nat.le_refl _) (B44.size)
      refine EL_nil ?_
      refine thn_n ?_
      refine EC_seq ?_
      refine EC_reg ?_
      refine EL_val p9 w58 rfl (r_move rfl) ?_
      refine EL_ret [p9] rfl Try.func13 rfl nm13 rfl (strip_none p9 ((bpad b).set ((x54 : Int).toNat) (b55 ^^^ x)) w58 (own_row O59') (bstrip_turned hb2 (j := (x54 : Int).toNat) (by omega) (by omega) (by have e0 := hb56; rw [bpad_tail (by omega) (by omega)] at e0; cases e0; intro e1; exact hx0 (by simpa using e1)))) ?_
      rintro _ w66 ⟨rfl, B67⟩
      have B68 : Below w.heap.size w w66 := below_full B62 B62.size B67
      have B69 : Below w1.heap.size w1 w66 := below_full B63 B63.size B67
      have B70 : Below w58.heap.size w58 w66 := B67
      refine EL_val (.tuple #[.slice none 0 0, .int .i64 10]) w66 rfl (r_move rfl) ?_
      refine EL_val (.slice none 0 0) w66 rfl (r_extract rfl rfl) ?_
      refine EL_val (.int .i64 10) w66 rfl (r_extract rfl rfl) ?_
      refine EL_val (.slice none 0 0) w66 rfl (r_assign rfl) ?_
      refine EL_val (.int .i64 10) w66 rfl (r_assign rfl) ?_
      refine EL_nil ?_
      refine thn_n ?_
      refine EC_seq ?_
      refine EC_reg ?_
      refine EL_val (.int .i64 10) w66 rfl (r_move rfl) ?_
      refine EL_val (.bool false) w66 rfl (r_dec (by decide) (r_neq rfl rfl)) ?_
      refine EL_nil ?_
      refine thn_n ?_
      refine EC_cond_false rfl ?_
      refine EC_skip ?_
      refine thn_n ?_
      refine EC_seq ?_
      refine EC_reg ?_
      refine EL_val (.int .i64 10) w66 rfl (r_move rfl) ?_
      refine EL_val (.bool true) w66 rfl (r_dec (by decide) (r_eql rfl rfl)) ?_
      refine EL_val (.bool true) w66 rfl (r_assign rfl) ?_
      refine EL_nil ?_
      refine thn_n ?_
      refine EC_ret ?_
      refine fin1 Try.results7 (show _ = .bool true from rfl) ⟨_, rfl, ?_⟩
      exact ⟨rfl, B68⟩
    · refine EC_skip ?_
      refine thn_n ?_
      refine EC_seq ?_
      refine EC_reg ?_
      refine EL_val (.int .i64 10) w41 rfl (r_move rfl) ?_
      refine EL_val (.bool true) w41 rfl (r_dec (by decide) (r_eql rfl rfl)) ?_
      refine EL_val (.bool true) w41 rfl (r_assign rfl) ?_
      refine EL_nil ?_
      refine thn_n ?_
      refine EC_ret ?_
      refine fin1 Try.results7 (show _ = .bool true from rfl) ⟨_, rfl, ?_⟩
      exact ⟨rfl, B43⟩
theorem own : ownKnob Try.prog.godebug = none := by kernel_rfl
theorem laidOut : laidOutB Try.prog = true := by kernel_rfl
set_option maxRecDepth 100000 in
theorem lifted (os : Os) (started : os.Started) (H : Type) (enc : TypeId × Value → H) :
    ReturnsInHanded {} Try.checked os 7 .any (Rows.bucketTailSpec.pre6 enc Try.prog Try.f7 Rows.bucketTailRow.domain false) (Rows.bucketTailSpec.post enc Try.prog Try.f7 false true false false) := by
  refine returnsInHanded_of_change (C := Try.checked) own started (by kernel_rfl) Try.func7
    (ChangeSpec.witness6 (enc := enc) (C := Try.checked) false ⟨#[], #[.slice none 0 0, .int .i64 0, .int .u8 0], []⟩ 8 (by kernel_rfl) (by kernel_rfl) (by kernel_rfl) (by kernel_rfl)) ?_
  intro W base args ds gs before hval0 hW hcnd _
  have hval : ∀ (j : Nat) t v, Try.f7.params[j]? = some t → args[j]? = some v → Value.okWide Try.prog W .any base t v := hval0
  have hW' := hW
  obtain ⟨p, q, hA0, hV, rfl, hfz, hnd⟩ := hW
  have hA : DataW.TrodAll enc Try.prog W 0 (fun _ => true) true Try.f7.params.toList args.toList ds p := hA0
  rw [Try.params7] at hA hval
  obtain ⟨v0, vs0, d0, ds0, p0, q0, hargs, rfl, rfl, h0, r0⟩ := trodAll_cons hA
  obtain ⟨v1, vs1, d1, ds1, p1, q1, rfl, rfl, rfl, h1, r1⟩ := trodAll_cons r0
  obtain ⟨v2, vs2, d2, ds2, p2, q2, rfl, rfl, rfl, h2, r2⟩ := trodAll_cons r1
  obtain ⟨rfl, rfl, rfl⟩ := trodAll_nil r2
  obtain rfl : args = #[v0, v1, v2] := by cases args; simp_all
  obtain ⟨rfl, rfl⟩ := trodVars_none hV
  have k0 := h0
  have lt0 : ∀ x ∈ p0, x.block < W.heap.size := by obtain ⟨m, hm⟩ := k0; exact DataW.trod_lt m _ _ _ hm
  obtain ⟨a0, len0, cap0, rfl⟩ := okWide_slice Try.underlying28 (hval 0 28 v0 rfl rfl)
  obtain ⟨b0, H0⟩ : ∃ l, Bs W (.slice a0 len0 cap0) l := by
    obtain ⟨fuel, hf⟩ := h0
    rcases open_ints Try.underlying28 Try.underlying5 (by kernel_rfl) hf with ⟨hcs, _⟩ | ⟨x, l, c, zs, hcs, _, hl, hm, hz, _, hcell, hwz⟩
    · simp [Value.cells] at hcs
      obtain ⟨rfl, rfl, rfl⟩ := hcs
      exact ⟨[], Row.nil W⟩
    · simp [Value.cells] at hcs
      obtain ⟨rfl, rfl, rfl⟩ := hcs
      exact bs_open hl hm (by simpa using hz) hcell hwz
  have k1 := h1
  have lt1 : ∀ x ∈ p1, x.block < W.heap.size := by obtain ⟨m, hm⟩ := k1; exact DataW.trod_lt m _ _ _ hm
  obtain ⟨a1, rfl, rfl, rfl, w1⟩ := open_int Try.underlying3 (hval 1 3 v1 rfl rfl) h1
  have k2 := h2
  have lt2 : ∀ x ∈ p2, x.block < W.heap.size := by obtain ⟨m, hm⟩ := k2; exact DataW.trod_lt m _ _ _ hm
  obtain ⟨a2, rfl, rfl, rfl, w2⟩ := open_int Try.underlying5 (hval 2 5 v2 rfl rfl) h2
  obtain ⟨y2, rfl⟩ := u8_of w2
  clear hA0 hval0
  refine Calls.mono (BucketTail_c (.slice a0 len0 cap0) b0 a1 y2 W H0 (rng_i64 w1)) fun e W' ⟨v', he, hv, bel⟩ => ?_
  subst he
  subst hv
  exact ⟨_, rfl, _, _, _, [], _, [], hW', trodAll_mk1 (shut_bool Try.underlying4 _), (trodAll_cons_mk (Below.trod laidOut (by kernel_rfl) (of_decide_eq_true (by kernel_rfl)) k0 bel lt0) (trodAll_cons_mk (Below.trod laidOut (by kernel_rfl) (of_decide_eq_true (by kernel_rfl)) k1 bel lt1) (trodAll_cons_mk (Below.trod laidOut (by kernel_rfl) (of_decide_eq_true (by kernel_rfl)) k2 bel lt2) trodAll_mk0))), rfl, bel.frame _, fun h => by cases h⟩
theorem over : Rows.bucketTailRow.holds Try.pinned (OpenSpec.ofChange Rows.bucketTailSpec) :=
  OpenClaim.holds_of_wide 7 Try.f7 rfl rfl rfl rfl rfl rfl rfl ⟨rfl, rfl, rfl, rfl, rfl⟩ rfl rfl rfl rfl rfl (by kernel_rfl) Try.func7 (by kernel_rfl)
    (of_decide_eq_true (by kernel_rfl)) (by unfold Func.isWrapper; first | (rw [if_pos (by decide +kernel)]; kernel_rfl) | (rw [if_neg (by decide +kernel)]; exact ⟨rfl, rfl⟩))
    (fun os started H enc _ => lifted os started H enc)
end Go.Proofs.Ytlfjgikkaffmaaa.bucketTail
namespace Go.Proofs.Ytlfjgikkaffmaaa
theorem BucketTail_holds : Rows.BucketTailSaid := bucketTail.over
end Go.Proofs.Ytlfjgikkaffmaaa
