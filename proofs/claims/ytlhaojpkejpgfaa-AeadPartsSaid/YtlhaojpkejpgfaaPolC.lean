import Derived.Test.YtlhaojpkejpgfaaPolB
set_option linter.unusedVariables false
set_option linter.unusedSimpArgs false
namespace Go.Proofs.Ytlhaojpkejpgfaa
open Go.RowKit Go.Ecal

set_option maxRecDepth 100000 in
set_option maxHeartbeats 4000000 in
theorem wleast_c (n : Int) (w : World) (hn : 0 ≤ n ∧ n < 1569275433846670190958947355801916604025588861116008628224) : Ret Try.prog 25 [.agg ((wof n).map (Value.int .u64)).toArray] w fun v w' => v = .agg ((wof (n % 1361129467683753853853498429727072845819)).map (Value.int .u64)).toArray ∧ Below w.heap.size w w' := by
  obtain ⟨a0, a1, a2, aw, ab0, ab1, ab2, av⟩ := wof_ex (n := n) (by omega) (by omega)
  rw [aw]
  have ha2 : a2 < 4611686018427387904 := by omega
  refine ret_E Try.func25 rfl Try.ntmps25 (by simp) ?_
  refine EC_seq ?_
  refine EC_reg ?_
  refine EL_box (([a0, a1, a2] : List Int).map (Value.int .u64)) rfl rfl rfl ?_
  intro b11 w12 k13 A14 B15 z16
  have B17 : Below w.heap.size w w12 := B15
  have A14' : Arr w12 b11 49 (([a0, a1, a2] : List Int).map (Value.int .u64)) := A14
  refine EL_alloc (z := .agg #[.int .u64 0, .int .u64 0, .int .u64 0]) (List.replicate 3 (.int .u64 0)) rfl (by kernel_rfl) rfl ?_
  intro b18 w19 k20 A21 B22 z23
  have ne24 : b11 < b18 := by have := (A14').lt; omega
  have B25 : Below w.heap.size w w19 := below_full B17 B17.size B22
  have B26 : Below w12.heap.size w12 w19 := B22
  have A21' : Arr w19 b18 49 ((List.replicate 3 0).map (Value.int .u64)) := A21
  refine EL_nil ?_
  refine thn_n ?_
  refine EC_scope (fun l' m' E' w' => (l' = 0 ∧ ∃ q : Nat, ∃ d0 : Int, ∃ d1 : Int, ∃ d2 : Int, ∃ o0 : Int, m' = (d0 + d1 * 18446744073709551616 + d2 * 340282366920938463463374607431768211456).toNat ∧ E' 3 = ptr q ∧ E' 1 = ptr b11 ∧ E' 2 = ptr b18 ∧ (w19.heap.size ≤ q) ∧ (0 ≤ d0 ∧ d0 < 18446744073709551616) ∧ (0 ≤ d1 ∧ d1 < 18446744073709551616) ∧ (0 ≤ d2 ∧ d2 < 4611686018427387904) ∧ ((d0 + d1 * 18446744073709551616 + d2 * 340282366920938463463374607431768211456) % 1361129467683753853853498429727072845819 = n % 1361129467683753853853498429727072845819) ∧ Below w.heap.size w w' ∧ Arr w' b11 49 ((([d0, d1, d2] : List Int)).map (Value.int .u64)) ∧ Arr w' q 49 ((([o0, 0, 0] : List Int)).map (Value.int .u64)) ∧ Arr w' b18 49 ((List.replicate 3 0).map (Value.int .u64)))) (n.toNat + 1) ?_ ?_
  · refine EC_seq ?_
    refine EC_reg ?_
    refine EL_alloc (z := .agg #[.int .u64 0, .int .u64 0, .int .u64 0]) (List.replicate 3 (.int .u64 0)) rfl (by kernel_rfl) rfl ?_
    intro b27 w28 k29 A30 B31 z32
    have ne33 : b11 < b27 := by have := ((A14'.below B26)).lt; omega
    have ne34 : b18 < b27 := by have := (A21').lt; omega
    have B35 : Below w.heap.size w w28 := below_full B25 B25.size B31
    have B36 : Below w12.heap.size w12 w28 := below_full B26 B26.size B31
    have B37 : Below w19.heap.size w19 w28 := B31
    have A30' : Arr w28 b27 49 ((List.replicate 3 0).map (Value.int .u64)) := A30
    refine EL_nil ?_
    refine thn_n ?_
    refine EC_seq ?_
    refine EC_label ?_
    refine thn_n ?_
    refine EC_seq ?_
    refine EC_reg ?_
    refine EL_val (ptr b11 2) w28 rfl (r_indexA (i := 2) rfl rfl (by omega) (by omega) Try.underlying49 (by kernel_rfl)) ?_
    refine EL_val (.int .u64 a2) w28 rfl (r_loadA rfl (A14'.below B36) (u := .int .u64 a2) rfl Try.underlying47 rfl) ?_
    refine EL_int (a2 / 4) rfl (r_shri (n := 2) rfl rfl rfl (by decide) (by decide)) ?_
    intro x38 hx38
    refine EL_int (x38 * 5) rfl (r_asn (by omega) (r_mulq rfl rfl)) ?_
    intro x39 hx39
    refine EL_val (ptr b27 0) w28 rfl (r_indexA (i := 0) rfl rfl (by omega) (by omega) Try.underlying49 (by kernel_rfl)) ?_
    refine EL_storeA (j := 0) (u := .int .u64 x39) rfl rfl A30' (by first | (simp; omega) | simp) rfl (by kernel_rfl) ?_
    intro w40 A41 K42 z43
    have A41' : Arr w40 b27 49 ((([x39, 0, 0] : List Int)).map (Value.int .u64)) := A41
    have B44 : Below w.heap.size w w40 := below_kept B35 K42 (Nat.le_trans B25.size (Nat.le_of_eq k29.symm)) (B35.size)
    have B45 : Below w12.heap.size w12 w40 := below_kept B36 K42 (Nat.le_trans B26.size (Nat.le_of_eq k29.symm)) (B36.size)
    have B46 : Below w19.heap.size w19 w40 := below_kept B37 K42 (Nat.le_trans (Nat.le_refl _) (Nat.le_of_eq k29.symm)) (B37.size)
    have A47 : Arr w40 b11 49 (([a0, a1, a2] : List Int).map (Value.int .u64)) := (A14'.below B36).grew K42 (by simp; omega)
    have A48 : Arr w40 b18 49 ((List.replicate 3 0).map (Value.int .u64)) := (A21'.below B37).grew K42 (by simp; omega)
    refine EL_nil ?_
    refine thn_n ?_
    refine EC_seq ?_
    refine EC_reg ?_
    refine EL_val (ptr b11 2) w40 rfl (r_indexA (i := 2) rfl rfl (by omega) (by omega) Try.underlying49 (by kernel_rfl)) ?_
    refine EL_val (.int .u64 a2) w40 rfl (r_loadA rfl A47 (u := .int .u64 a2) rfl Try.underlying47 rfl) ?_
    refine EL_int (a2 % 4) rfl (r_mask (p := 4) 2 rfl rfl (by decide) (by decide) (by decide) (by omega)) ?_
    intro x49 hx49
    refine EL_val (ptr b11 2) w40 rfl (r_indexA (i := 2) rfl rfl (by omega) (by omega) Try.underlying49 (by kernel_rfl)) ?_
    refine EL_storeA (j := 2) (u := .int .u64 x49) rfl rfl A47 (by first | (simp; omega) | simp) rfl (by kernel_rfl) ?_
    intro w50 A51 K52 z53
    have A51' : Arr w50 b11 49 ((([a0, a1, x49] : List Int)).map (Value.int .u64)) := A51
    have B54 : Below w.heap.size w w50 := below_kept B44 K52 (Nat.le_trans (Nat.le_refl _) (Nat.le_of_eq k13.symm)) (B44.size)
    have A55 : Arr w50 b18 49 ((List.replicate 3 0).map (Value.int .u64)) := A48.grew K52 (by simp; omega)
    have A56 : Arr w50 b27 49 (([x39, 0, 0] : List Int).map (Value.int .u64)) := A41'.grew K52 (by simp; omega)
    refine EL_nil ?_
    refine thn_n ?_
    refine EC_seq ?_
    refine EC_seq ?_
    refine EC_reg ?_
    refine EL_val (.agg (([a0, a1, x49] : List Int).map (Value.int .u64)).toArray) w50 rfl (r_loadAll rfl A51' Try.underlying49 rfl (Eq.trans (show _ = some 3 from by kernel_rfl) (congrArg some (by first | (simp; done) | (simp; omega) | rfl)))) ?_
    refine EL_val (.agg (([x39, 0, 0] : List Int).map (Value.int .u64)).toArray) w50 rfl (r_loadAll rfl A56 Try.underlying49 rfl (Eq.trans (show _ = some 3 from by kernel_rfl) (congrArg some (by first | (simp; done) | (simp; omega) | rfl)))) ?_
    have ea57 := wof_of (a := a0) (b := a1) (c := x49) (n := a0 + a1 * 18446744073709551616 + x49 * 340282366920938463463374607431768211456) (by omega) (by omega) (by omega) rfl
    have eb58 := wof_of (a := x39) (b := 0) (c := 0) (n := x39 + 0 * 18446744073709551616 + 0 * 340282366920938463463374607431768211456) (by omega) (by omega) (by omega) rfl
    obtain ⟨c600, c601, c602, c60w, c60b0, c60b1, c60b2, c60v⟩ := wof_ex (n := (a0 + a1 * 18446744073709551616 + x49 * 340282366920938463463374607431768211456) + (x39 + 0 * 18446744073709551616 + 0 * 340282366920938463463374607431768211456)) (by omega) (by omega)
    have hc59 := wadd_c (a0 + a1 * 18446744073709551616 + x49 * 340282366920938463463374607431768211456) (x39 + 0 * 18446744073709551616 + 0 * 340282366920938463463374607431768211456) w50 (by omega) (by omega) (by omega)
    rw [← ea57, ← eb58, c60w] at hc59
    refine EL_ret [.agg (([a0, a1, x49] : List Int).map (Value.int .u64)).toArray, .agg (([x39, 0, 0] : List Int).map (Value.int .u64)).toArray] rfl Try.func26 rfl nm26 rfl (hc59) ?_
    rintro _ w61 ⟨rfl, B62⟩
    have B63 : Below w.heap.size w w61 := below_full B54 B54.size B62
    have B64 : Below w50.heap.size w50 w61 := B62
    refine EL_storeAll (v := .agg (([c600, c601, c602] : List Int).map (Value.int .u64)).toArray) (cs' := (([c600, c601, c602] : List Int).map (Value.int .u64)).toArray) rfl rfl rfl (A51'.below B64) (by first | rfl | (simp; done) | (simp; omega)) (Eq.trans (show _ = some 3 from by kernel_rfl) (congrArg some (by first | (simp; done) | (simp; omega) | rfl))) (ints_oneCell _ _) ?_
    intro w65 A66 K67 z68
    have A66' : Arr w65 b11 49 (([c600, c601, c602] : List Int).map (Value.int .u64)) := by simpa using A66
    have B69 : Below w.heap.size w w65 := below_kept B63 K67 (Nat.le_trans (Nat.le_refl _) (Nat.le_of_eq k13.symm)) (B63.size)
    have A70 : Arr w65 b18 49 ((List.replicate 3 0).map (Value.int .u64)) := (A55.below B64).grew K67 (by simp; omega)
    have A71 : Arr w65 b27 49 (([x39, 0, 0] : List Int).map (Value.int .u64)) := (A56.below B64).grew K67 (by simp; omega)
    refine EL_nil ?_
    refine thn_n ?_
    refine EC_seq ?_
    refine EC_reg ?_
    refine EL_val (ptr b11 2) w65 rfl (r_indexA (i := 2) rfl rfl (by omega) (by omega) Try.underlying49 (by kernel_rfl)) ?_
    refine EL_val (.int .u64 c602) w65 rfl (r_loadA rfl A66' (u := .int .u64 c602) rfl Try.underlying47 rfl) ?_
    refine EL_val (.bool (decide (3 < c602))) w65 rfl (r_gtr rfl rfl) ?_
    refine EL_nil ?_
    refine thn_n ?_
    refine EC_if (p := 3 < c602) rfl (fun h72 => ?_) (fun h72 => ?_)
    · refine EC_goto ?_
      refine thn_g ?_
      refine jmp_g _ ?_ ⟨rfl, b27, c600, c601, c602, x39, rfl, rfl, rfl, rfl, (by omega), by omega, by omega, by omega, by omega, B69, A66', A71, A70⟩
      first | omega | (simp; omega)
    · refine EC_skip ?_
      refine thn_n ?_
      refine EC_seq ?_
      refine EC_seq ?_
      refine EC_reg ?_
      refine EL_val (.agg (([c600, c601, c602] : List Int).map (Value.int .u64)).toArray) w65 rfl (r_loadAll rfl A66' Try.underlying49 rfl (Eq.trans (show _ = some 3 from by kernel_rfl) (congrArg some (by first | (simp; done) | (simp; omega) | rfl)))) ?_
      refine EL_val (.agg #[.int .u64 5, .int .u64 0, .int .u64 0]) w65 rfl (r_buildA (z := .agg #[.int .u64 0, .int .u64 0, .int .u64 0]) _ Try.underlying49 (by kernel_rfl) (by kernel_rfl) (by kernel_rfl)) ?_
      have ea73 := wof_of (a := c600) (b := c601) (c := c602) (n := c600 + c601 * 18446744073709551616 + c602 * 340282366920938463463374607431768211456) (by omega) (by omega) (by omega) rfl
      have eb74 := wof_of (a := 5) (b := 0) (c := 0) (n := 5 + 0 * 18446744073709551616 + 0 * 340282366920938463463374607431768211456) (by omega) (by omega) (by omega) rfl
      obtain ⟨c760, c761, c762, c76w, c76b0, c76b1, c76b2, c76v⟩ := wof_ex (n := (c600 + c601 * 18446744073709551616 + c602 * 340282366920938463463374607431768211456) + (5 + 0 * 18446744073709551616 + 0 * 340282366920938463463374607431768211456)) (by omega) (by omega)
      have hc75 := wadd_c (c600 + c601 * 18446744073709551616 + c602 * 340282366920938463463374607431768211456) (5 + 0 * 18446744073709551616 + 0 * 340282366920938463463374607431768211456) w65 (by omega) (by omega) (by omega)
      rw [← ea73, ← eb74, c76w] at hc75
      refine EL_ret [.agg (([c600, c601, c602] : List Int).map (Value.int .u64)).toArray, .agg #[.int .u64 5, .int .u64 0, .int .u64 0]] rfl Try.func26 rfl nm26 rfl (hc75) ?_
      rintro _ w77 ⟨rfl, B78⟩
      have B79 : Below w.heap.size w w77 := below_full B69 B69.size B78
      have B80 : Below w65.heap.size w65 w77 := B78
      refine EL_alloc (z := .agg #[.int .u64 0, .int .u64 0, .int .u64 0]) (List.replicate 3 (.int .u64 0)) rfl (by kernel_rfl) rfl ?_
      intro b81 w82 k83 A84 B85 z86
      have ne87 : b11 < b81 := by have := ((A66'.below B80)).lt; omega
      have ne88 : b18 < b81 := by have := ((A70.below B80)).lt; omega
      have ne89 : b27 < b81 := by have := ((A71.below B80)).lt; omega
      have B90 : Below w.heap.size w w82 := below_full B79 B79.size B85
      have B91 : Below w65.heap.size w65 w82 := below_full B80 B80.size B85
      have B92 : Below w77.heap.size w77 w82 := B85
      have A84' : Arr w82 b81 49 ((List.replicate 3 0).map (Value.int .u64)) := A84
      refine EL_storeAll (v := .agg (([c760, c761, c762] : List Int).map (Value.int .u64)).toArray) (cs' := (([c760, c761, c762] : List Int).map (Value.int .u64)).toArray) rfl rfl rfl A84' (by first | rfl | (simp; done) | (simp; omega)) (Eq.trans (show _ = some 3 from by kernel_rfl) (congrArg some (by first | (simp; done) | (simp; omega) | rfl))) (ints_oneCell _ _) ?_
      intro w93 A94 K95 z96
      have A94' : Arr w93 b81 49 (([c760, c761, c762] : List Int).map (Value.int .u64)) := by simpa using A94
      have B97 : Below w.heap.size w w93 := below_kept B90 K95 (Nat.le_trans B79.size (Nat.le_of_eq k83.symm)) (B90.size)
      have B98 : Below w65.heap.size w65 w93 := below_kept B91 K95 (Nat.le_trans B80.size (Nat.le_of_eq k83.symm)) (B91.size)
      have B99 : Below w77.heap.size w77 w93 := below_kept B92 K95 (Nat.le_trans (Nat.le_refl _) (Nat.le_of_eq k83.symm)) (B92.size)
      have A100 : Arr w93 b11 49 (([c600, c601, c602] : List Int).map (Value.int .u64)) := (A66'.below B91).grew K95 (by simp; omega)
      have A101 : Arr w93 b18 49 ((List.replicate 3 0).map (Value.int .u64)) := (A70.below B91).grew K95 (by simp; omega)
      have A102 : Arr w93 b27 49 (([x39, 0, 0] : List Int).map (Value.int .u64)) := (A71.below B91).grew K95 (by simp; omega)
      refine EL_nil ?_
      refine thn_n ?_
      refine EC_seq ?_
      refine EC_reg ?_
      refine EL_val (ptr b81 2) w93 rfl (r_indexA (i := 2) rfl rfl (by omega) (by omega) Try.underlying49 (by kernel_rfl)) ?_
      refine EL_val (.int .u64 c762) w93 rfl (r_loadA rfl A94' (u := .int .u64 c762) rfl Try.underlying47 rfl) ?_
      refine EL_val (.bool (decide (3 < c762))) w93 rfl (r_gtr rfl rfl) ?_
      refine EL_nil ?_
      refine thn_n ?_
      refine EC_if (p := 3 < c762) rfl (fun h103 => ?_) (fun h103 => ?_)
      · refine EC_seq ?_
        refine EC_reg ?_
        refine EL_val (ptr b81 2) w93 rfl (r_indexA (i := 2) rfl rfl (by omega) (by omega) Try.underlying49 (by kernel_rfl)) ?_
        refine EL_val (.int .u64 c762) w93 rfl (r_loadA rfl A94' (u := .int .u64 c762) rfl Try.underlying47 rfl) ?_
        have h4 : c762 = 4 := by omega
        refine EL_int (c762 % 4) rfl (r_mask (p := 4) 2 rfl rfl (by decide) (by decide) (by decide) (by omega)) ?_
        intro x104 hx104
        refine EL_val (ptr b81 2) w93 rfl (r_indexA (i := 2) rfl rfl (by omega) (by omega) Try.underlying49 (by kernel_rfl)) ?_
        refine EL_storeA (j := 2) (u := .int .u64 x104) rfl rfl A94' (by first | (simp; omega) | simp) rfl (by kernel_rfl) ?_
        intro w105 A106 K107 z108
        have A106' : Arr w105 b81 49 ((([c760, c761, x104] : List Int)).map (Value.int .u64)) := A106
        have B109 : Below w.heap.size w w105 := below_kept B97 K107 (Nat.le_trans B79.size (Nat.le_of_eq k83.symm)) (B97.size)
        have B110 : Below w65.heap.size w65 w105 := below_kept B98 K107 (Nat.le_trans B80.size (Nat.le_of_eq k83.symm)) (B98.size)
        have B111 : Below w77.heap.size w77 w105 := below_kept B99 K107 (Nat.le_trans (Nat.le_refl _) (Nat.le_of_eq k83.symm)) (B99.size)
        have A112 : Arr w105 b11 49 (([c600, c601, c602] : List Int).map (Value.int .u64)) := A100.grew K107 (by simp; omega)
        have A113 : Arr w105 b18 49 ((List.replicate 3 0).map (Value.int .u64)) := A101.grew K107 (by simp; omega)
        have A114 : Arr w105 b27 49 (([x39, 0, 0] : List Int).map (Value.int .u64)) := A102.grew K107 (by simp; omega)
        refine EL_nil ?_
        refine thn_n ?_
        refine EC_seq ?_
        refine EC_reg ?_
        refine EL_val (.agg (([c760, c761, x104] : List Int).map (Value.int .u64)).toArray) w105 rfl (r_loadAll rfl A106' Try.underlying49 rfl (Eq.trans (show _ = some 3 from by kernel_rfl) (congrArg some (by first | (simp; done) | (simp; omega) | rfl)))) ?_
        refine EL_storeAll (v := .agg (([c760, c761, x104] : List Int).map (Value.int .u64)).toArray) (cs' := (([c760, c761, x104] : List Int).map (Value.int .u64)).toArray) rfl rfl rfl A113 (by first | rfl | (simp; done) | (simp; omega)) (Eq.trans (show _ = some 3 from by kernel_rfl) (congrArg some (by first | (simp; done) | (simp; omega) | rfl))) (ints_oneCell _ _) ?_
        intro w115 A116 K117 z118
        have A116' : Arr w115 b18 49 (([c760, c761, x104] : List Int).map (Value.int .u64)) := by simpa using A116
        have B119 : Below w.heap.size w w115 := below_kept B109 K117 (Nat.le_trans B17.size (Nat.le_of_eq k20.symm)) (B109.size)
        have A120 : Arr w115 b11 49 (([c600, c601, c602] : List Int).map (Value.int .u64)) := A112.grew K117 (by simp; omega)
        have A121 : Arr w115 b27 49 (([x39, 0, 0] : List Int).map (Value.int .u64)) := A114.grew K117 (by simp; omega)
        have A122 : Arr w115 b81 49 (([c760, c761, x104] : List Int).map (Value.int .u64)) := A106'.grew K117 (by simp; omega)
        refine EL_nil ?_
        refine thn_n ?_
        refine EC_ret ?_
        refine thn_r ?_
        refine jmp_r ?_
        refine fin1c Try.results25 (show _ = ptr b18 from rfl) A116' Try.underlying49 rfl (by kernel_rfl) ⟨_, rfl, ?_⟩
        have ew := wof_of (a := c760) (b := c761) (c := x104) (n := n % 1361129467683753853853498429727072845819) (by omega) (by omega) (by omega) (by omega)
        exact ⟨by rw [← ew], B119⟩
      · refine EC_skip ?_
        refine thn_n ?_
        refine EC_seq ?_
        refine EC_reg ?_
        refine EL_val (.agg (([c600, c601, c602] : List Int).map (Value.int .u64)).toArray) w93 rfl (r_loadAll rfl A100 Try.underlying49 rfl (Eq.trans (show _ = some 3 from by kernel_rfl) (congrArg some (by first | (simp; done) | (simp; omega) | rfl)))) ?_
        refine EL_storeAll (v := .agg (([c600, c601, c602] : List Int).map (Value.int .u64)).toArray) (cs' := (([c600, c601, c602] : List Int).map (Value.int .u64)).toArray) rfl rfl rfl A101 (by first | rfl | (simp; done) | (simp; omega)) (Eq.trans (show _ = some 3 from by kernel_rfl) (congrArg some (by first | (simp; done) | (simp; omega) | rfl))) (ints_oneCell _ _) ?_
        intro w123 A124 K125 z126
        have A124' : Arr w123 b18 49 (([c600, c601, c602] : List Int).map (Value.int .u64)) := by simpa using A124
        have B127 : Below w.heap.size w w123 := below_kept B97 K125 (Nat.le_trans B17.size (Nat.le_of_eq k20.symm)) (B97.size)
        have A128 : Arr w123 b11 49 (([c600, c601, c602] : List Int).map (Value.int .u64)) := A100.grew K125 (by simp; omega)
        have A129 : Arr w123 b27 49 (([x39, 0, 0] : List Int).map (Value.int .u64)) := A102.grew K125 (by simp; omega)
        have A130 : Arr w123 b81 49 (([c760, c761, c762] : List Int).map (Value.int .u64)) := A94'.grew K125 (by simp; omega)
        refine EL_nil ?_
        refine thn_n ?_
        refine EC_ret ?_
        refine jmp_r ?_
        refine fin1c Try.results25 (show _ = ptr b18 from rfl) A124' Try.underlying49 rfl (by kernel_rfl) ⟨_, rfl, ?_⟩
        have ew := wof_of (a := c600) (b := c601) (c := c602) (n := n % 1361129467683753853853498429727072845819) (by omega) (by omega) (by omega) (by omega)
        exact ⟨by rw [← ew], B127⟩
  · rintro _ _ E138 w139 (⟨rfl, q, d0, d1, d2, o0, rfl, e131, e132, e133, hq, hd0, hd1, hd2, hdv, B134, A135, A136, A137⟩)
    · refine ⟨_, rfl, ?_⟩
      refine EC_seq ?_
      refine EC_skip ?_
      refine thn_n ?_
      refine EC_seq ?_
      refine EC_reg ?_
      refine EL_val (ptr b11 2) w139 rfl (r_indexA (i := 2) (by exact e132) rfl (by omega) (by omega) Try.underlying49 (by kernel_rfl)) ?_
      refine EL_val (.int .u64 d2) w139 rfl (r_loadA rfl A135 (u := .int .u64 d2) rfl Try.underlying47 rfl) ?_
      refine EL_int (d2 / 4) rfl (r_shri (n := 2) rfl rfl rfl (by decide) (by decide)) ?_
      intro x140 hx140
      refine EL_int (x140 * 5) rfl (r_asn (by omega) (r_mulq rfl rfl)) ?_
      intro x141 hx141
      refine EL_val (ptr q 0) w139 rfl (r_indexA (i := 0) (by exact e131) rfl (by omega) (by omega) Try.underlying49 (by kernel_rfl)) ?_
      refine EL_storeA (j := 0) (u := .int .u64 x141) rfl rfl A136 (by first | (simp; omega) | simp) rfl (by kernel_rfl) ?_
      intro w142 A143 K144 z145
      have A143' : Arr w142 q 49 ((([x141, 0, 0] : List Int)).map (Value.int .u64)) := A143
      have B146 : Below w.heap.size w w142 := below_kept B134 K144 (Nat.le_trans B25.size hq) (B134.size)
      have A147 : Arr w142 b11 49 (([d0, d1, d2] : List Int).map (Value.int .u64)) := A135.grew K144 (by simp; omega)
      have A148 : Arr w142 b18 49 ((List.replicate 3 0).map (Value.int .u64)) := A137.grew K144 (by simp; omega)
      refine EL_nil ?_
      refine thn_n ?_
      refine EC_seq ?_
      refine EC_reg ?_
      refine EL_val (ptr b11 2) w142 rfl (r_indexA (i := 2) (by exact e132) rfl (by omega) (by omega) Try.underlying49 (by kernel_rfl)) ?_
      refine EL_val (.int .u64 d2) w142 rfl (r_loadA rfl A147 (u := .int .u64 d2) rfl Try.underlying47 rfl) ?_
      refine EL_int (d2 % 4) rfl (r_mask (p := 4) 2 rfl rfl (by decide) (by decide) (by decide) (by omega)) ?_
      intro x149 hx149
      refine EL_val (ptr b11 2) w142 rfl (r_indexA (i := 2) (by exact e132) rfl (by omega) (by omega) Try.underlying49 (by kernel_rfl)) ?_
      refine EL_storeA (j := 2) (u := .int .u64 x149) rfl rfl A147 (by first | (simp; omega) | simp) rfl (by kernel_rfl) ?_
      intro w150 A151 K152 z153
      have A151' : Arr w150 b11 49 ((([d0, d1, x149] : List Int)).map (Value.int .u64)) := A151
      have B154 : Below w.heap.size w w150 := below_kept B146 K152 (Nat.le_trans (Nat.le_refl _) (Nat.le_of_eq k13.symm)) (B146.size)
      have A155 : Arr w150 b18 49 ((List.replicate 3 0).map (Value.int .u64)) := A148.grew K152 (by simp; omega)
      have A156 : Arr w150 q 49 (([x141, 0, 0] : List Int).map (Value.int .u64)) := A143'.grew K152 (by simp; omega)
      refine EL_nil ?_
      refine thn_n ?_
      refine EC_seq ?_
      refine EC_seq ?_
      refine EC_reg ?_
      refine EL_val (.agg (([d0, d1, x149] : List Int).map (Value.int .u64)).toArray) w150 rfl (r_loadAll (by exact e132) A151' Try.underlying49 rfl (Eq.trans (show _ = some 3 from by kernel_rfl) (congrArg some (by first | (simp; done) | (simp; omega) | rfl)))) ?_
      refine EL_val (.agg (([x141, 0, 0] : List Int).map (Value.int .u64)).toArray) w150 rfl (r_loadAll (by exact e131) A156 Try.underlying49 rfl (Eq.trans (show _ = some 3 from by kernel_rfl) (congrArg some (by first | (simp; done) | (simp; omega) | rfl)))) ?_
      have ea157 := wof_of (a := d0) (b := d1) (c := x149) (n := d0 + d1 * 18446744073709551616 + x149 * 340282366920938463463374607431768211456) (by omega) (by omega) (by omega) rfl
      have eb158 := wof_of (a := x141) (b := 0) (c := 0) (n := x141 + 0 * 18446744073709551616 + 0 * 340282366920938463463374607431768211456) (by omega) (by omega) (by omega) rfl
      obtain ⟨c1600, c1601, c1602, c160w, c160b0, c160b1, c160b2, c160v⟩ := wof_ex (n := (d0 + d1 * 18446744073709551616 + x149 * 340282366920938463463374607431768211456) + (x141 + 0 * 18446744073709551616 + 0 * 340282366920938463463374607431768211456)) (by omega) (by omega)
      have hc159 := wadd_c (d0 + d1 * 18446744073709551616 + x149 * 340282366920938463463374607431768211456) (x141 + 0 * 18446744073709551616 + 0 * 340282366920938463463374607431768211456) w150 (by omega) (by omega) (by omega)
      rw [← ea157, ← eb158, c160w] at hc159
      refine EL_ret [.agg (([d0, d1, x149] : List Int).map (Value.int .u64)).toArray, .agg (([x141, 0, 0] : List Int).map (Value.int .u64)).toArray] rfl Try.func26 rfl nm26 rfl (hc159) ?_
      rintro _ w161 ⟨rfl, B162⟩
      have B163 : Below w.heap.size w w161 := below_full B154 B154.size B162
      have B164 : Below w150.heap.size w150 w161 := B162
      refine EL_storeAll (v := .agg (([c1600, c1601, c1602] : List Int).map (Value.int .u64)).toArray) (cs' := (([c1600, c1601, c1602] : List Int).map (Value.int .u64)).toArray) (by exact e132) rfl rfl (A151'.below B164) (by first | rfl | (simp; done) | (simp; omega)) (Eq.trans (show _ = some 3 from by kernel_rfl) (congrArg some (by first | (simp; done) | (simp; omega) | rfl))) (ints_oneCell _ _) ?_
      intro w165 A166 K167 z168
      have A166' : Arr w165 b11 49 (([c1600, c1601, c1602] : List Int).map (Value.int .u64)) := by simpa using A166
      have B169 : Below w.heap.size w w165 := below_kept B163 K167 (Nat.le_trans (Nat.le_refl _) (Nat.le_of_eq k13.symm)) (B163.size)
      have A170 : Arr w165 b18 49 ((List.replicate 3 0).map (Value.int .u64)) := (A155.below B164).grew K167 (by simp; omega)
      have A171 : Arr w165 q 49 (([x141, 0, 0] : List Int).map (Value.int .u64)) := (A156.below B164).grew K167 (by simp; omega)
      refine EL_nil ?_
      refine thn_n ?_
      refine EC_seq ?_
      refine EC_reg ?_
      refine EL_val (ptr b11 2) w165 rfl (r_indexA (i := 2) (by exact e132) rfl (by omega) (by omega) Try.underlying49 (by kernel_rfl)) ?_
      refine EL_val (.int .u64 c1602) w165 rfl (r_loadA rfl A166' (u := .int .u64 c1602) rfl Try.underlying47 rfl) ?_
      refine EL_val (.bool (decide (3 < c1602))) w165 rfl (r_gtr rfl rfl) ?_
      refine EL_nil ?_
      refine thn_n ?_
      refine EC_if (p := 3 < c1602) rfl (fun h172 => ?_) (fun h172 => ?_)
      · refine EC_goto ?_
        refine thn_g ?_
        refine jmp_g _ ?_ ⟨rfl, q, c1600, c1601, c1602, x141, rfl, (by exact e131), (by exact e132), (by exact e133), hq, by omega, by omega, by omega, by omega, B169, A166', A171, A170⟩
        first | omega | (simp; omega)
      · refine EC_skip ?_
        refine thn_n ?_
        refine EC_seq ?_
        refine EC_seq ?_
        refine EC_reg ?_
        refine EL_val (.agg (([c1600, c1601, c1602] : List Int).map (Value.int .u64)).toArray) w165 rfl (r_loadAll (by exact e132) A166' Try.underlying49 rfl (Eq.trans (show _ = some 3 from by kernel_rfl) (congrArg some (by first | (simp; done) | (simp; omega) | rfl)))) ?_
        refine EL_val (.agg #[.int .u64 5, .int .u64 0, .int .u64 0]) w165 rfl (r_buildA (z := .agg #[.int .u64 0, .int .u64 0, .int .u64 0]) _ Try.underlying49 (by kernel_rfl) (by kernel_rfl) (by kernel_rfl)) ?_
        have ea173 := wof_of (a := c1600) (b := c1601) (c := c1602) (n := c1600 + c1601 * 18446744073709551616 + c1602 * 340282366920938463463374607431768211456) (by omega) (by omega) (by omega) rfl
        have eb174 := wof_of (a := 5) (b := 0) (c := 0) (n := 5 + 0 * 18446744073709551616 + 0 * 340282366920938463463374607431768211456) (by omega) (by omega) (by omega) rfl
        obtain ⟨c1760, c1761, c1762, c176w, c176b0, c176b1, c176b2, c176v⟩ := wof_ex (n := (c1600 + c1601 * 18446744073709551616 + c1602 * 340282366920938463463374607431768211456) + (5 + 0 * 18446744073709551616 + 0 * 340282366920938463463374607431768211456)) (by omega) (by omega)
        have hc175 := wadd_c (c1600 + c1601 * 18446744073709551616 + c1602 * 340282366920938463463374607431768211456) (5 + 0 * 18446744073709551616 + 0 * 340282366920938463463374607431768211456) w165 (by omega) (by omega) (by omega)
        rw [← ea173, ← eb174, c176w] at hc175
        refine EL_ret [.agg (([c1600, c1601, c1602] : List Int).map (Value.int .u64)).toArray, .agg #[.int .u64 5, .int .u64 0, .int .u64 0]] rfl Try.func26 rfl nm26 rfl (hc175) ?_
        rintro _ w177 ⟨rfl, B178⟩
        have B179 : Below w.heap.size w w177 := below_full B169 B169.size B178
        have B180 : Below w165.heap.size w165 w177 := B178
        refine EL_alloc (z := .agg #[.int .u64 0, .int .u64 0, .int .u64 0]) (List.replicate 3 (.int .u64 0)) rfl (by kernel_rfl) rfl ?_
        intro b181 w182 k183 A184 B185 z186
        have ne187 : b11 < b181 := by have := ((A166'.below B180)).lt; omega
        have ne188 : b18 < b181 := by have := ((A170.below B180)).lt; omega
        have ne189 : q < b181 := by have := ((A171.below B180)).lt; omega
        have B190 : Below w.heap.size w w182 := below_full B179 B179.size B185
        have B191 : Below w165.heap.size w165 w182 := below_full B180 B180.size B185
        have B192 : Below w177.heap.size w177 w182 := B185
        have A184' : Arr w182 b181 49 ((List.replicate 3 0).map (Value.int .u64)) := A184
        refine EL_storeAll (v := .agg (([c1760, c1761, c1762] : List Int).map (Value.int .u64)).toArray) (cs' := (([c1760, c1761, c1762] : List Int).map (Value.int .u64)).toArray) rfl rfl rfl A184' (by first | rfl | (simp; done) | (simp; omega)) (Eq.trans (show _ = some 3 from by kernel_rfl) (congrArg some (by first | (simp; done) | (simp; omega) | rfl))) (ints_oneCell _ _) ?_
        intro w193 A194 K195 z196
        have A194' : Arr w193 b181 49 (([c1760, c1761, c1762] : List Int).map (Value.int .u64)) := by simpa using A194
        have B197 : Below w.heap.size w w193 := below_kept B190 K195 (Nat.le_trans B179.size (Nat.le_of_eq k183.symm)) (B190.size)
        have B198 : Below w165.heap.size w165 w193 := below_kept B191 K195 (Nat.le_trans B180.size (Nat.le_of_eq k183.symm)) (B191.size)
        have B199 : Below w177.heap.size w177 w193 := below_kept B192 K195 (Nat.le_trans (Nat.le_refl _) (Nat.le_of_eq k183.symm)) (B192.size)
        have A200 : Arr w193 b11 49 (([c1600, c1601, c1602] : List Int).map (Value.int .u64)) := (A166'.below B191).grew K195 (by simp; omega)
        have A201 : Arr w193 b18 49 ((List.replicate 3 0).map (Value.int .u64)) := (A170.below B191).grew K195 (by simp; omega)
        have A202 : Arr w193 q 49 (([x141, 0, 0] : List Int).map (Value.int .u64)) := (A171.below B191).grew K195 (by simp; omega)
        refine EL_nil ?_
        refine thn_n ?_
        refine EC_seq ?_
        refine EC_reg ?_
        refine EL_val (ptr b181 2) w193 rfl (r_indexA (i := 2) rfl rfl (by omega) (by omega) Try.underlying49 (by kernel_rfl)) ?_
        refine EL_val (.int .u64 c1762) w193 rfl (r_loadA rfl A194' (u := .int .u64 c1762) rfl Try.underlying47 rfl) ?_
        refine EL_val (.bool (decide (3 < c1762))) w193 rfl (r_gtr rfl rfl) ?_
        refine EL_nil ?_
        refine thn_n ?_
        refine EC_if (p := 3 < c1762) rfl (fun h203 => ?_) (fun h203 => ?_)
        · refine EC_seq ?_
          refine EC_reg ?_
          refine EL_val (ptr b181 2) w193 rfl (r_indexA (i := 2) rfl rfl (by omega) (by omega) Try.underlying49 (by kernel_rfl)) ?_
          refine EL_val (.int .u64 c1762) w193 rfl (r_loadA rfl A194' (u := .int .u64 c1762) rfl Try.underlying47 rfl) ?_
          have h4 : c1762 = 4 := by omega
          refine EL_int (c1762 % 4) rfl (r_mask (p := 4) 2 rfl rfl (by decide) (by decide) (by decide) (by omega)) ?_
          intro x204 hx204
          refine EL_val (ptr b181 2) w193 rfl (r_indexA (i := 2) rfl rfl (by omega) (by omega) Try.underlying49 (by kernel_rfl)) ?_
          refine EL_storeA (j := 2) (u := .int .u64 x204) rfl rfl A194' (by first | (simp; omega) | simp) rfl (by kernel_rfl) ?_
          intro w205 A206 K207 z208
          have A206' : Arr w205 b181 49 ((([c1760, c1761, x204] : List Int)).map (Value.int .u64)) := A206
          have B209 : Below w.heap.size w w205 := below_kept B197 K207 (Nat.le_trans B179.size (Nat.le_of_eq k183.symm)) (B197.size)
          have B210 : Below w165.heap.size w165 w205 := below_kept B198 K207 (Nat.le_trans B180.size (Nat.le_of_eq k183.symm)) (B198.size)
          have B211 : Below w177.heap.size w177 w205 := below_kept B199 K207 (Nat.le_trans (Nat.le_refl _) (Nat.le_of_eq k183.symm)) (B199.size)
          have A212 : Arr w205 b11 49 (([c1600, c1601, c1602] : List Int).map (Value.int .u64)) := A200.grew K207 (by simp; omega)
          have A213 : Arr w205 b18 49 ((List.replicate 3 0).map (Value.int .u64)) := A201.grew K207 (by simp; omega)
          have A214 : Arr w205 q 49 (([x141, 0, 0] : List Int).map (Value.int .u64)) := A202.grew K207 (by simp; omega)
          refine EL_nil ?_
          refine thn_n ?_
          refine EC_seq ?_
          refine EC_reg ?_
          refine EL_val (.agg (([c1760, c1761, x204] : List Int).map (Value.int .u64)).toArray) w205 rfl (r_loadAll rfl A206' Try.underlying49 rfl (Eq.trans (show _ = some 3 from by kernel_rfl) (congrArg some (by first | (simp; done) | (simp; omega) | rfl)))) ?_
          refine EL_storeAll (v := .agg (([c1760, c1761, x204] : List Int).map (Value.int .u64)).toArray) (cs' := (([c1760, c1761, x204] : List Int).map (Value.int .u64)).toArray) (by exact e133) rfl rfl A213 (by first | rfl | (simp; done) | (simp; omega)) (Eq.trans (show _ = some 3 from by kernel_rfl) (congrArg some (by first | (simp; done) | (simp; omega) | rfl))) (ints_oneCell _ _) ?_
          intro w215 A216 K217 z218
          have A216' : Arr w215 b18 49 (([c1760, c1761, x204] : List Int).map (Value.int .u64)) := by simpa using A216
          have B219 : Below w.heap.size w w215 := below_kept B209 K217 (Nat.le_trans B17.size (Nat.le_of_eq k20.symm)) (B209.size)
          have A220 : Arr w215 b11 49 (([c1600, c1601, c1602] : List Int).map (Value.int .u64)) := A212.grew K217 (by simp; omega)
          have A221 : Arr w215 q 49 (([x141, 0, 0] : List Int).map (Value.int .u64)) := A214.grew K217 (by simp; omega)
          have A222 : Arr w215 b181 49 (([c1760, c1761, x204] : List Int).map (Value.int .u64)) := A206'.grew K217 (by simp; omega)
          refine EL_nil ?_
          refine thn_n ?_
          refine EC_ret ?_
          refine thn_r ?_
          refine jmp_r ?_
          refine fin1c Try.results25 (show _ = ptr b18 from (by exact e133)) A216' Try.underlying49 rfl (by kernel_rfl) ⟨_, rfl, ?_⟩
          have ew := wof_of (a := c1760) (b := c1761) (c := x204) (n := n % 1361129467683753853853498429727072845819) (by omega) (by omega) (by omega) (by omega)
          exact ⟨by rw [← ew], B219⟩
        · refine EC_skip ?_
          refine thn_n ?_
          refine EC_seq ?_
          refine EC_reg ?_
          refine EL_val (.agg (([c1600, c1601, c1602] : List Int).map (Value.int .u64)).toArray) w193 rfl (r_loadAll (by exact e132) A200 Try.underlying49 rfl (Eq.trans (show _ = some 3 from by kernel_rfl) (congrArg some (by first | (simp; done) | (simp; omega) | rfl)))) ?_
          refine EL_storeAll (v := .agg (([c1600, c1601, c1602] : List Int).map (Value.int .u64)).toArray) (cs' := (([c1600, c1601, c1602] : List Int).map (Value.int .u64)).toArray) (by exact e133) rfl rfl A201 (by first | rfl | (simp; done) | (simp; omega)) (Eq.trans (show _ = some 3 from by kernel_rfl) (congrArg some (by first | (simp; done) | (simp; omega) | rfl))) (ints_oneCell _ _) ?_
          intro w223 A224 K225 z226
          have A224' : Arr w223 b18 49 (([c1600, c1601, c1602] : List Int).map (Value.int .u64)) := by simpa using A224
          have B227 : Below w.heap.size w w223 := below_kept B197 K225 (Nat.le_trans B17.size (Nat.le_of_eq k20.symm)) (B197.size)
          have A228 : Arr w223 b11 49 (([c1600, c1601, c1602] : List Int).map (Value.int .u64)) := A200.grew K225 (by simp; omega)
          have A229 : Arr w223 q 49 (([x141, 0, 0] : List Int).map (Value.int .u64)) := A202.grew K225 (by simp; omega)
          have A230 : Arr w223 b181 49 (([c1760, c1761, c1762] : List Int).map (Value.int .u64)) := A194'.grew K225 (by simp; omega)
          refine EL_nil ?_
          refine thn_n ?_
          refine EC_ret ?_
          refine jmp_r ?_
          refine fin1c Try.results25 (show _ = ptr b18 from (by exact e133)) A224' Try.underlying49 rfl (by kernel_rfl) ⟨_, rfl, ?_⟩
          have ew := wof_of (a := c1600) (b := c1601) (c := c1602) (n := n % 1361129467683753853853498429727072845819) (by omega) (by omega) (by omega) (by omega)
          exact ⟨by rw [← ew], B227⟩

end Go.Proofs.Ytlhaojpkejpgfaa
