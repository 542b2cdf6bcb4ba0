import Derived.Test.YtlhaojpkejpgfaaPol
set_option linter.unusedVariables false
set_option linter.unusedSimpArgs false
namespace Go.Proofs.Ytlhaojpkejpgfaa
open Go.RowKit Go.Ecal

set_option maxRecDepth 100000 in
set_option maxHeartbeats 4000000 in
theorem rnumber_c (v0 : Value) (b : List UInt8) (w : World) (H0 : Bs w v0 b) (lb : b.length ≤ 1000000) : Ret Try.prog 40 [v0] w fun v w' => w'.ownsRow w.heap.size 3 1 v (nu b).length ((nu b).map (Value.int .i64)) ∧ Below w.heap.size w w' := by
  refine ret_E Try.func40 rfl Try.ntmps40 (by simp) ?_
  refine EC_seq ?_
  refine EC_reg ?_
  refine EL_val (.slice none 0 0) w rfl (r_assign rfl) ?_
  refine EL_nil ?_
  refine thn_n ?_
  refine EC_seq ?_
  refine EC_reg ?_
  refine EL_val (.slice none 0 0) w rfl (r_assign rfl) ?_
  refine EL_nil ?_
  refine thn_n ?_
  refine EC_seq ?_
  refine EC_seq ?_
  refine EC_reg ?_
  refine EL_val (.int .i64 0) w rfl (r_assign rfl) ?_
  refine EL_nil ?_
  refine thn_n ?_
  refine EC_block ?_
  refine EC_loop (fun m' E' w' => ∃ i : Int, ∃ ov : Value, m' = (b.length - i).toNat ∧ E' 4 = .int .i64 i ∧ E' 3 = ov ∧ E' 0 = v0 ∧ E' 2 = .slice none 0 0 ∧ (0 ≤ i ∧ i ≤ (b.length : Int)) ∧ ((nu (b.take i.toNat)).length ≤ 1000000) ∧ Below w.heap.size w w' ∧ w'.ownsRow w.heap.size 3 1 ov (nu (b.take i.toNat)).length ((nu (b.take i.toNat)).map (Value.int .i64))) _ ⟨0, .slice none 0 0, rfl, rfl, rfl, rfl, rfl, by omega, by simp [nu], (Below.refl _ _), (World.ownsRow_nil _ _ _ _)⟩ ?_
  rintro _ E11 w12 ⟨i, ov, rfl, e13, e14, e15, e16, hi, hn, B17, O18⟩
  refine EC_seq ?_
  refine EC_seq ?_
  refine EC_reg ?_
  refine EL_val (.int .i64 i) w12 rfl (r_move (by exact e13)) ?_
  refine EL_val v0 w12 rfl (r_move (by exact e15)) ?_
  refine EL_val (.int .i64 (b.length : Int)) w12 rfl (lenB (r_len rfl (H0.below B17) Try.underlying22)) ?_
  refine EL_val (.bool (decide (i < (b.length : Int)))) w12 rfl (r_lss rfl rfl) ?_
  refine EL_nil ?_
  refine thn_n ?_
  refine EC_if (p := i < (b.length : Int)) rfl (fun h19 => ?_) (fun h19 => ?_)
  · refine EC_skip ?_
    refine thn_n ?_
    refine EC_seq ?_
    refine EC_block ?_
    refine EC_reg ?_
    refine EL_val ov w12 rfl (r_move (by exact e14)) ?_
    refine EL_val v0 w12 rfl (r_move (by exact e15)) ?_
    refine EL_val (.int .i64 i) w12 rfl (r_move (by exact e13)) ?_
    refine EL_val (.pointer (some (at_ v0 ((i : Int).toNat)))) w12 rfl (r_index rfl (H0.below B17) rfl (by omega) (by first | omega | (simp; omega) | simp) Try.underlying22 (by kernel_rfl)) ?_
    obtain ⟨b20, hb21⟩ := get_some (l := b) (j := (i : Int).toNat) (by omega)
    have hb22 := b20.toNat_lt
    refine EL_val (.int .u8 (b20.toNat : Int)) w12 rfl (r_load rfl ((H0.below B17).cell (bs_get hb21)) Try.underlying5 rfl) ?_
    refine EL_val (.int .i64 (b20.toNat : Int)) w12 rfl (r_convi 5 3 rfl Try.underlying5 Try.underlying3 (by omega)) ?_
    refine EL_lit w12.heap.size #[.int .i64 (b20.toNat : Int)] el_i64 rfl (by decide) rfl (Nat.le_refl _) (by kernel_rfl) ?_
    intro v23 w24 O25 B26 k27 z28
    have B29 : Below w.heap.size w w24 := below_full B17 B17.size B26
    have B30 : Below w12.heap.size w12 w24 := B26
    have O25' := own_eqF (f := Value.int .i64) (l := [(b20.toNat : Int)]) O25 rfl
    refine EL_append (v := ov) (xs := (nu (b.take i.toNat)).map (Value.int .i64)) (ys := [(b20.toNat : Int)].map (Value.int .i64)) w.heap.size el_i64 rfl rfl rfl (by simpa using (own_below O18 B30)) (own_row O25') (int_one _) (by first | (simp only [List.length_map, List.length_nil]; omega) | (simp only [List.length_map, List.length_cons, List.length_nil]; omega) | (simp; done) | (simp; omega)) (by decide) B29.size ?_
    intro v31 w32 O33 G34 A35
    have O33' := own_appF O33
    have B36 : Below w.heap.size w w32 := below_grew B29 G34 (own_below O18 B30) (Nat.le_refl _) (B29.size)
    refine EL_val v31 w32 rfl (r_assign rfl) ?_
    refine EL_nil ?_
    refine inB_n ?_
    refine thn_n ?_
    refine EC_reg ?_
    refine EL_val (.int .i64 i) w32 rfl (r_move (by exact e13)) ?_
    refine EL_int (i + 1) rfl (r_addi rfl rfl (by omega)) ?_
    intro x39 hx39
    refine EL_val (.int .i64 x39) w32 rfl (r_assign rfl) ?_
    refine EL_nil ?_
    refine thn_n ?_
    refine ⟨_, ?_, x39, v31, rfl, rfl, rfl, (by exact e15), (by exact e16), by omega, by rw [nu_len]; simp; omega, B36, own_asF O33' (by rw [show (x39 : Int).toNat = i.toNat + 1 from by omega]; exact nu_step hb21)⟩
    first | omega | (simp; omega)
  · refine EC_exit ?_
    refine thn_x ?_
    refine thn_x ?_
    refine inB_hit ?_
    refine thn_n ?_
    refine EC_seq ?_
    refine EC_reg ?_
    refine EL_val ov w12 rfl (r_move (by exact e14)) ?_
    refine EL_val ov w12 rfl (r_assign rfl) ?_
    refine EL_nil ?_
    refine thn_n ?_
    refine EC_ret ?_
    refine fin1 Try.results40 (show _ = ov from rfl) ⟨_, rfl, ?_⟩
    have ei : i.toNat = b.length := by omega
    exact ⟨own_asF O18 (by rw [ei, List.take_length]), B17⟩

set_option maxRecDepth 100000 in
set_option maxHeartbeats 4000000 in
theorem rhigh_c (v0 : Value) (a : List Int) (w : World) (H0 : Row w v0 (a.map (Value.int .i64))) (ha : dig a) : Ret Try.prog 47 [v0] w fun v w' => v = .bool (decide ((1361129467683753853853498429727072845824 : Int) ≤ val a)) ∧ w = w' := by
  have lH0 := H0.len_le
  simp only [List.length_map] at lH0
  refine ret_E Try.func47 rfl Try.ntmps47 (by simp) ?_
  refine EC_seq ?_
  refine EC_reg ?_
  refine EL_val (.bool false) w rfl (r_assign rfl) ?_
  refine EL_nil ?_
  refine thn_n ?_
  refine EC_seq ?_
  refine EC_seq ?_
  refine EC_reg ?_
  refine EL_val (.int .i64 17) w rfl (r_assign rfl) ?_
  refine EL_nil ?_
  refine thn_n ?_
  refine EC_block ?_
  refine EC_loop (fun m' E' w' => ∃ i : Int, m' = (a.length + 17 - i).toNat ∧ E' 3 = .int .i64 i ∧ E' 0 = v0 ∧ (17 ≤ i) ∧ (∀ (j : Nat) (x : Int), 17 ≤ j → (j : Int) < i → a[j]? = some x → x = 0) ∧ w = w') _ ⟨17, rfl, rfl, rfl, by omega, fun j x h1 h2 => by omega, rfl⟩ ?_
  rintro _ E11 w12 ⟨i, rfl, e13, e14, hi, hz, rfl⟩
  refine EC_seq ?_
  refine EC_seq ?_
  refine EC_reg ?_
  refine EL_val (.int .i64 i) w rfl (r_move (by exact e13)) ?_
  refine EL_val v0 w rfl (r_move (by exact e14)) ?_
  refine EL_val (.int .i64 (a.length : Int)) w rfl (lenF (r_len rfl H0 Try.underlying66)) ?_
  refine EL_val (.bool (decide (i < (a.length : Int)))) w rfl (r_lss rfl rfl) ?_
  refine EL_nil ?_
  refine thn_n ?_
  refine EC_if (p := i < (a.length : Int)) rfl (fun h15 => ?_) (fun h15 => ?_)
  · refine EC_skip ?_
    refine thn_n ?_
    refine EC_seq ?_
    refine EC_block ?_
    refine EC_seq ?_
    refine EC_reg ?_
    refine EL_val v0 w rfl (r_move (by exact e14)) ?_
    refine EL_val (.int .i64 i) w rfl (r_move (by exact e13)) ?_
    refine EL_val (.pointer (some (at_ v0 ((i : Int).toNat)))) w rfl (r_index rfl H0 rfl (by omega) (by first | omega | (simp; omega) | simp) Try.underlying66 (by kernel_rfl)) ?_
    obtain ⟨x16, hx17⟩ := get_some (l := a) (j := (i : Int).toNat) (by first | omega | (simp; omega) | simp)
    have dhx17 := dig_get ha hx17
    refine EL_val (.int .i64 x16) w rfl (r_load rfl (H0.cell (int_get hx17)) Try.underlying3 rfl) ?_
    refine EL_val (.bool (decide (0 < x16))) w rfl (r_gtr rfl rfl) ?_
    refine EL_nil ?_
    refine thn_n ?_
    refine EC_if (p := 0 < x16) rfl (fun h18 => ?_) (fun h18 => ?_)
    · refine EC_seq ?_
      refine EC_reg ?_
      refine EL_val (.bool true) w rfl (r_assign rfl) ?_
      refine EL_nil ?_
      refine thn_n ?_
      refine EC_ret ?_
      refine inB_r ?_
      refine thn_r ?_
      refine thn_r ?_
      refine inB_r ?_
      refine thn_r ?_
      refine fin1 Try.results47 (show _ = .bool true from rfl) ⟨_, rfl, ?_⟩
      exact ⟨congrArg Value.bool (by rw [decide_eq_true (high_hit ha (i := i.toNat) (by omega) hx17 (by omega))]), rfl⟩
    · refine EC_skip ?_
      refine inB_n ?_
      refine thn_n ?_
      refine EC_reg ?_
      refine EL_val (.int .i64 i) w rfl (r_move (by exact e13)) ?_
      refine EL_int (i + 1) rfl (r_addi rfl rfl (by omega)) ?_
      intro x19 hx19
      refine EL_val (.int .i64 x19) w rfl (r_assign rfl) ?_
      refine EL_nil ?_
      refine thn_n ?_
      refine ⟨_, ?_, x19, rfl, rfl, (by exact e14), by omega, fun j y hj hl hy => by
      by_cases e : j = i.toNat
      · subst e; rw [hy] at hx17; cases hx17; omega
      · exact hz j y hj (by omega) hy, rfl⟩
      first | omega | (simp; omega)
  · refine EC_exit ?_
    refine thn_x ?_
    refine thn_x ?_
    refine inB_hit ?_
    refine thn_n ?_
    refine EC_seq ?_
    refine EC_reg ?_
    refine EL_val v0 w rfl (r_move (by exact e14)) ?_
    refine EL_val (.int .i64 (a.length : Int)) w rfl (lenF (r_len rfl H0 Try.underlying66)) ?_
    refine EL_val (.bool (decide (16 < (a.length : Int)))) w rfl (r_gtr rfl rfl) ?_
    refine EL_val (.bool (decide (16 < (a.length : Int)))) w rfl (r_move rfl) ?_
    rcases Bool.eq_false_or_eq_true (decide (16 < (a.length : Int))) with q20 | q20
    · have q20' : 16 < (a.length : Int) := of_decide_eq_true q20
      refine EL_gval 18 rfl (by exact congrArg Value.bool q20) rfl rfl v0 w rfl (r_move (by exact e14)) ?_
      refine EL_gval 18 rfl (by exact congrArg Value.bool q20) rfl rfl (.pointer (some (at_ v0 ((16 : Int).toNat)))) w rfl (r_index rfl H0 rfl (by omega) (by first | omega | (simp; omega) | simp) Try.underlying66 (by kernel_rfl)) ?_
      obtain ⟨x21, hx22⟩ := get_some (l := a) (j := (16 : Int).toNat) (by first | omega | (simp; omega) | simp)
      have dhx22 := dig_get ha hx22
      refine EL_gval 18 rfl (by exact congrArg Value.bool q20) rfl rfl (.int .i64 x21) w rfl (r_load rfl (H0.cell (int_get hx22)) Try.underlying3 rfl) ?_
      refine EL_gval 18 rfl (by exact congrArg Value.bool q20) rfl rfl (.bool (decide (3 < x21))) w rfl (r_gtr rfl rfl) ?_
      refine EL_val (.bool (decide (3 < x21))) w rfl (r_pickT (by exact congrArg Value.bool q20) rfl) ?_
      refine EL_val (.bool (decide (3 < x21))) w rfl (r_assign rfl) ?_
      refine EL_nil ?_
      refine thn_n ?_
      refine EC_ret ?_
      refine fin1 Try.results47 (show _ = .bool (decide (3 < x21)) from rfl) ⟨_, rfl, ?_⟩
      have he := high_end ha (fun j x hj hx => hz j x hj (by have := (List.getElem?_eq_some_iff.1 hx).1; omega) hx)
      exact ⟨congrArg Value.bool (by rw [← he, getD_of (a := a) (i := 16) hx22]; simp; omega), rfl⟩
    · have q20' : ¬ (16 < (a.length : Int)) := of_decide_eq_false q20
      refine EL_pass 18 rfl (by exact congrArg Value.bool q20) rfl rfl rfl ?_
      refine EL_pass 18 rfl (by exact congrArg Value.bool q20) rfl rfl rfl ?_
      refine EL_pass 18 rfl (by exact congrArg Value.bool q20) rfl rfl rfl ?_
      refine EL_pass 18 rfl (by exact congrArg Value.bool q20) rfl rfl rfl ?_
      refine EL_val (.bool false) w rfl (r_pickF (by exact congrArg Value.bool q20) rfl) ?_
      refine EL_val (.bool false) w rfl (r_assign rfl) ?_
      refine EL_nil ?_
      refine thn_n ?_
      refine EC_ret ?_
      refine fin1 Try.results47 (show _ = .bool false from rfl) ⟨_, rfl, ?_⟩
      have he := high_end ha (fun j x hj hx => hz j x hj (by have := (List.getElem?_eq_some_iff.1 hx).1; omega) hx)
      exact ⟨congrArg Value.bool (by rw [← he]; simp; omega), rfl⟩

set_option maxRecDepth 100000 in
set_option maxHeartbeats 4000000 in
theorem radd_c (v0 : Value) (a : List Int) (v1 : Value) (b : List Int) (w : World) (H0 : Row w v0 (a.map (Value.int .i64))) (H1 : Row w v1 (b.map (Value.int .i64))) (ha : dig a) (hb : dig b) (la : a.length ≤ 4000000) (lb : b.length ≤ 4000000) : Ret Try.prog 43 [v0, v1] w fun v w' => ∃ o, w'.ownsRow w.heap.size 3 1 v o.length (o.map (Value.int .i64)) ∧ Below w.heap.size w w' ∧ dig o ∧ val o = val a + val b ∧ (o.length ≤ a.length + 1 ∨ o.length ≤ b.length + 1) ∧ a.length ≤ o.length ∧ b.length ≤ o.length := by
  refine ret_E Try.func43 rfl Try.ntmps43 (by simp) ?_
  refine EC_seq ?_
  refine EC_reg ?_
  refine EL_val (.slice none 0 0) w rfl (r_assign rfl) ?_
  refine EL_nil ?_
  refine thn_n ?_
  refine EC_seq ?_
  refine EC_reg ?_
  refine EL_val (.slice none 0 0) w rfl (r_assign rfl) ?_
  refine EL_nil ?_
  refine thn_n ?_
  refine EC_seq ?_
  refine EC_reg ?_
  refine EL_val (.int .i64 0) w rfl (r_assign rfl) ?_
  refine EL_nil ?_
  refine thn_n ?_
  refine EC_seq ?_
  refine EC_seq ?_
  refine EC_reg ?_
  refine EL_val (.int .i64 0) w rfl (r_assign rfl) ?_
  refine EL_nil ?_
  refine thn_n ?_
  refine EC_block ?_
  refine EC_loop (fun m' E' w' => ∃ i : Int, ∃ c : Int, ∃ ov : Value, ∃ ol : List Int, m' = (a.length + b.length + 2 - i).toNat ∧ E' 7 = .int .i64 i ∧ E' 6 = .int .i64 c ∧ E' 5 = ov ∧ E' 0 = v0 ∧ E' 1 = v1 ∧ E' 4 = .slice none 0 0 ∧ (0 ≤ i ∧ (ol.length : Int) = i ∧ (i ≤ a.length ∨ i ≤ b.length ∨ (c = 0 ∧ (i ≤ a.length + 1 ∨ i ≤ b.length + 1)))) ∧ (0 ≤ c ∧ c ≤ 1) ∧ (dig ol) ∧ (val ol + 256 ^ i.toNat * (c + val (a.drop i.toNat) + val (b.drop i.toNat)) = val a + val b) ∧ Below w.heap.size w w' ∧ w'.ownsRow w.heap.size 3 1 ov (ol).length ((ol).map (Value.int .i64))) _ ⟨0, 0, .slice none 0 0, [], rfl, rfl, rfl, rfl, rfl, rfl, rfl, by simp, by omega, dig_nil, by simp [val], (Below.refl _ _), (World.ownsRow_nil _ _ _ _)⟩ ?_
  rintro _ E11 w12 ⟨i, c, ov, ol, rfl, e13, e14, e15, e16, e17, e18, hi, hc, hd, hv, B19, O20⟩
  refine EC_seq ?_
  refine EC_seq ?_
  refine EC_reg ?_
  refine EL_val (.int .i64 i) w12 rfl (r_move (by exact e13)) ?_
  refine EL_val v0 w12 rfl (r_move (by exact e16)) ?_
  refine EL_val (.int .i64 (a.length : Int)) w12 rfl (lenF (r_len rfl (H0.below B19) Try.underlying66)) ?_
  refine EL_val (.bool (decide (i < (a.length : Int)))) w12 rfl (r_lss rfl rfl) ?_
  refine EL_val (.bool (decide (i < (a.length : Int)))) w12 rfl (r_move rfl) ?_
  refine EL_gite 12 rfl rfl rfl (.int .i64 i) rfl (fun g21 => r_move (by exact e13)) ?_
  refine EL_gite 12 rfl rfl rfl v1 rfl (fun g22 => r_move (by exact e17)) ?_
  refine EL_gite 12 rfl rfl rfl (.int .i64 (b.length : Int)) rfl (fun g23 => lenF (r_len (cond_of g23 rfl) (H1.below B19) Try.underlying66)) ?_
  refine EL_gite 12 rfl rfl rfl (.bool (decide (i < (b.length : Int)))) rfl (fun g24 => r_lss (cond_of g24 rfl) (cond_of g24 rfl)) ?_
  refine EL_val (.bool ((decide (i < (a.length : Int))) || (decide (i < (b.length : Int))))) w12 rfl (r_or rfl rfl rfl) ?_
  refine EL_val (.bool ((decide (i < (a.length : Int))) || (decide (i < (b.length : Int))))) w12 rfl (r_move rfl) ?_
  refine EL_gite 18 rfl rfl rfl (.int .i64 c) rfl (fun g25 => r_move (by exact e14)) ?_
  refine EL_gite 18 rfl rfl rfl (.bool (decide (0 < c))) rfl (fun g26 => r_gtr (cond_of g26 rfl) rfl) ?_
  refine EL_val (.bool (((decide (i < (a.length : Int))) || (decide (i < (b.length : Int)))) || (decide (0 < c)))) w12 rfl (r_or rfl rfl rfl) ?_
  refine EL_nil ?_
  refine thn_n ?_
  refine EC_cond (t := ((decide (i < (a.length : Int))) || (decide (i < (b.length : Int)))) || (decide (0 < c))) rfl (fun h27 => ?_) (fun h27 => ?_)
  · simp at h27
    refine EC_skip ?_
    refine thn_n ?_
    refine EC_seq ?_
    refine EC_block ?_
    refine EC_seq ?_
    refine EC_seq ?_
    refine EC_reg ?_
    refine EL_val (.int .i64 i) w12 rfl (r_move (by exact e13)) ?_
    refine EL_val v0 w12 rfl (r_move (by exact e16)) ?_
    refine EL_val (.int .i64 (a.length : Int)) w12 rfl (lenF (r_len rfl (H0.below B19) Try.underlying66)) ?_
    refine EL_val (.bool (decide (i < (a.length : Int)))) w12 rfl (r_lss rfl rfl) ?_
    refine EL_nil ?_
    refine thn_n ?_
    refine EC_if (p := i < (a.length : Int)) rfl (fun h28 => ?_) (fun h28 => ?_)
    · refine EC_reg ?_
      refine EL_val (.int .i64 c) w12 rfl (r_move (by exact e14)) ?_
      refine EL_val v0 w12 rfl (r_move (by exact e16)) ?_
      refine EL_val (.int .i64 i) w12 rfl (r_move (by exact e13)) ?_
      refine EL_val (.pointer (some (at_ v0 ((i : Int).toNat)))) w12 rfl (r_index rfl (H0.below B19) rfl (by omega) (by first | omega | (simp; omega) | simp) Try.underlying66 (by kernel_rfl)) ?_
      obtain ⟨x29, hx30⟩ := get_some (l := a) (j := (i : Int).toNat) (by first | omega | (simp; omega) | simp)
      have dhx30 := dig_get ha hx30
      have ghx30 := getD_of hx30
      refine EL_val (.int .i64 x29) w12 rfl (r_load rfl ((H0.below B19).cell (int_get hx30)) Try.underlying3 rfl) ?_
      refine EL_int (c + x29) rfl (r_addi rfl rfl (by omega)) ?_
      intro x31 hx31
      refine EL_val (.int .i64 x31) w12 rfl (r_assign rfl) ?_
      refine EL_nil ?_
      refine thn_n ?_
      refine EC_seq ?_
      refine EC_seq ?_
      refine EC_reg ?_
      refine EL_val (.int .i64 i) w12 rfl (r_move (by exact e13)) ?_
      refine EL_val v1 w12 rfl (r_move (by exact e17)) ?_
      refine EL_val (.int .i64 (b.length : Int)) w12 rfl (lenF (r_len rfl (H1.below B19) Try.underlying66)) ?_
      refine EL_val (.bool (decide (i < (b.length : Int)))) w12 rfl (r_lss rfl rfl) ?_
      refine EL_nil ?_
      refine thn_n ?_
      refine EC_if (p := i < (b.length : Int)) rfl (fun h32 => ?_) (fun h32 => ?_)
      · refine EC_reg ?_
        refine EL_val (.int .i64 x31) w12 rfl (r_move rfl) ?_
        refine EL_val v1 w12 rfl (r_move (by exact e17)) ?_
        refine EL_val (.int .i64 i) w12 rfl (r_move (by exact e13)) ?_
        refine EL_val (.pointer (some (at_ v1 ((i : Int).toNat)))) w12 rfl (r_index rfl (H1.below B19) rfl (by omega) (by first | omega | (simp; omega) | simp) Try.underlying66 (by kernel_rfl)) ?_
        obtain ⟨x33, hx34⟩ := get_some (l := b) (j := (i : Int).toNat) (by first | omega | (simp; omega) | simp)
        have dhx34 := dig_get hb hx34
        have ghx34 := getD_of hx34
        refine EL_val (.int .i64 x33) w12 rfl (r_load rfl ((H1.below B19).cell (int_get hx34)) Try.underlying3 rfl) ?_
        refine EL_int (x31 + x33) rfl (r_addi rfl rfl (by omega)) ?_
        intro x35 hx35
        refine EL_val (.int .i64 x35) w12 rfl (r_assign rfl) ?_
        refine EL_nil ?_
        refine thn_n ?_
        refine EC_seq ?_
        refine EC_reg ?_
        refine EL_val ov w12 rfl (r_move (by exact e15)) ?_
        refine EL_val (.int .i64 x35) w12 rfl (r_move rfl) ?_
        refine EL_int (x35 % 256) rfl (r_remi rfl rfl (by omega) (by omega)) ?_
        intro x36 hx36
        refine EL_lit w12.heap.size #[.int .i64 x36] el_i64 rfl (by decide) rfl (Nat.le_refl _) (by kernel_rfl) ?_
        intro v37 w38 O39 B40 k41 z42
        have B43 : Below w.heap.size w w38 := below_full B19 B19.size B40
        have B44 : Below w12.heap.size w12 w38 := B40
        have O39' := own_eqF (f := Value.int .i64) (l := [x36]) O39 rfl
        refine EL_append (v := ov) (xs := ol.map (Value.int .i64)) (ys := [x36].map (Value.int .i64)) w.heap.size el_i64 rfl rfl rfl (by simpa using (own_below O20 B44)) (own_row O39') (int_one _) (by first | (simp only [List.length_map, List.length_nil]; omega) | (simp only [List.length_map, List.length_cons, List.length_nil]; omega) | (simp; done) | (simp; omega)) (by decide) B43.size ?_
        intro v45 w46 O47 G48 A49
        have O47' := own_appF O47
        have B50 : Below w.heap.size w w46 := below_grew B43 G48 (own_below O20 B44) (Nat.le_refl _) (B43.size)
        refine EL_val v45 w46 rfl (r_assign rfl) ?_
        refine EL_nil ?_
        refine thn_n ?_
        refine EC_reg ?_
        refine EL_val (.int .i64 x35) w46 rfl (r_move rfl) ?_
        refine EL_int (x35 / 256) rfl (r_quoi rfl rfl (by omega) (by omega)) ?_
        intro x53 hx53
        refine EL_val (.int .i64 x53) w46 rfl (r_assign rfl) ?_
        refine EL_nil ?_
        refine inB_n ?_
        refine thn_n ?_
        refine EC_reg ?_
        refine EL_val (.int .i64 i) w46 rfl (r_move (by exact e13)) ?_
        refine EL_int (i + 1) rfl (r_addi rfl rfl (by omega)) ?_
        intro x54 hx54
        refine EL_val (.int .i64 x54) w46 rfl (r_assign rfl) ?_
        refine EL_nil ?_
        refine thn_n ?_
        have inv := add_inv (c' := x35) (show ol.length = i.toNat from by omega) hv (by rw [ghx30, ghx34]; omega)
        rw [← hx36, ← hx53, show i.toNat + 1 = (x54 : Int).toNat from by omega] at inv
        refine ⟨_, ?_, x54, x53, v45, ol ++ [x36], rfl, rfl, rfl, rfl, (by exact e16), (by exact e17), (by exact e18), by simp; omega, by omega, dig_app hd (dig_one (by omega)), inv, B50, O47'⟩
        first | omega | (simp; omega)
      · refine EC_skip ?_
        refine thn_n ?_
        refine EC_seq ?_
        refine EC_reg ?_
        refine EL_val ov w12 rfl (r_move (by exact e15)) ?_
        refine EL_val (.int .i64 x31) w12 rfl (r_move rfl) ?_
        refine EL_int (x31 % 256) rfl (r_remi rfl rfl (by omega) (by omega)) ?_
        intro x55 hx55
        refine EL_lit w12.heap.size #[.int .i64 x55] el_i64 rfl (by decide) rfl (Nat.le_refl _) (by kernel_rfl) ?_
        intro v56 w57 O58 B59 k60 z61
        have B62 : Below w.heap.size w w57 := below_full B19 B19.size B59
        have B63 : Below w12.heap.size w12 w57 := B59
        have O58' := own_eqF (f := Value.int .i64) (l := [x55]) O58 rfl
        refine EL_append (v := ov) (xs := ol.map (Value.int .i64)) (ys := [x55].map (Value.int .i64)) w.heap.size el_i64 rfl rfl rfl (by simpa using (own_below O20 B63)) (own_row O58') (int_one _) (by first | (simp only [List.length_map, List.length_nil]; omega) | (simp only [List.length_map, List.length_cons, List.length_nil]; omega) | (simp; done) | (simp; omega)) (by decide) B62.size ?_
        intro v64 w65 O66 G67 A68
        have O66' := own_appF O66
        have B69 : Below w.heap.size w w65 := below_grew B62 G67 (own_below O20 B63) (Nat.le_refl _) (B62.size)
        refine EL_val v64 w65 rfl (r_assign rfl) ?_
        refine EL_nil ?_
        refine thn_n ?_
        refine EC_reg ?_
        refine EL_val (.int .i64 x31) w65 rfl (r_move rfl) ?_
        refine EL_int (x31 / 256) rfl (r_quoi rfl rfl (by omega) (by omega)) ?_
        intro x72 hx72
        refine EL_val (.int .i64 x72) w65 rfl (r_assign rfl) ?_
        refine EL_nil ?_
        refine inB_n ?_
        refine thn_n ?_
        refine EC_reg ?_
        refine EL_val (.int .i64 i) w65 rfl (r_move (by exact e13)) ?_
        refine EL_int (i + 1) rfl (r_addi rfl rfl (by omega)) ?_
        intro x73 hx73
        refine EL_val (.int .i64 x73) w65 rfl (r_assign rfl) ?_
        refine EL_nil ?_
        refine thn_n ?_
        have gnob : b.getD i.toNat 0 = 0 := getD_no (by omega)
        have inv := add_inv (c' := x31) (show ol.length = i.toNat from by omega) hv (by rw [ghx30, gnob]; omega)
        rw [← hx55, ← hx72, show i.toNat + 1 = (x73 : Int).toNat from by omega] at inv
        refine ⟨_, ?_, x73, x72, v64, ol ++ [x55], rfl, rfl, rfl, rfl, (by exact e16), (by exact e17), (by exact e18), by simp; omega, by omega, dig_app hd (dig_one (by omega)), inv, B69, O66'⟩
        first | omega | (simp; omega)
    · refine EC_skip ?_
      refine thn_n ?_
      refine EC_seq ?_
      refine EC_seq ?_
      refine EC_reg ?_
      refine EL_val (.int .i64 i) w12 rfl (r_move (by exact e13)) ?_
      refine EL_val v1 w12 rfl (r_move (by exact e17)) ?_
      refine EL_val (.int .i64 (b.length : Int)) w12 rfl (lenF (r_len rfl (H1.below B19) Try.underlying66)) ?_
      refine EL_val (.bool (decide (i < (b.length : Int)))) w12 rfl (r_lss rfl rfl) ?_
      refine EL_nil ?_
      refine thn_n ?_
      refine EC_if (p := i < (b.length : Int)) rfl (fun h74 => ?_) (fun h74 => ?_)
      · refine EC_reg ?_
        refine EL_val (.int .i64 c) w12 rfl (r_move (by exact e14)) ?_
        refine EL_val v1 w12 rfl (r_move (by exact e17)) ?_
        refine EL_val (.int .i64 i) w12 rfl (r_move (by exact e13)) ?_
        refine EL_val (.pointer (some (at_ v1 ((i : Int).toNat)))) w12 rfl (r_index rfl (H1.below B19) rfl (by omega) (by first | omega | (simp; omega) | simp) Try.underlying66 (by kernel_rfl)) ?_
        obtain ⟨x75, hx76⟩ := get_some (l := b) (j := (i : Int).toNat) (by first | omega | (simp; omega) | simp)
        have dhx76 := dig_get hb hx76
        have ghx76 := getD_of hx76
        refine EL_val (.int .i64 x75) w12 rfl (r_load rfl ((H1.below B19).cell (int_get hx76)) Try.underlying3 rfl) ?_
        refine EL_int (c + x75) rfl (r_addi rfl rfl (by omega)) ?_
        intro x77 hx77
        refine EL_val (.int .i64 x77) w12 rfl (r_assign rfl) ?_
        refine EL_nil ?_
        refine thn_n ?_
        refine EC_seq ?_
        refine EC_reg ?_
        refine EL_val ov w12 rfl (r_move (by exact e15)) ?_
        refine EL_val (.int .i64 x77) w12 rfl (r_move rfl) ?_
        refine EL_int (x77 % 256) rfl (r_remi rfl rfl (by omega) (by omega)) ?_
        intro x78 hx78
        refine EL_lit w12.heap.size #[.int .i64 x78] el_i64 rfl (by decide) rfl (Nat.le_refl _) (by kernel_rfl) ?_
        intro v79 w80 O81 B82 k83 z84
        have B85 : Below w.heap.size w w80 := below_full B19 B19.size B82
        have B86 : Below w12.heap.size w12 w80 := B82
        have O81' := own_eqF (f := Value.int .i64) (l := [x78]) O81 rfl
        refine EL_append (v := ov) (xs := ol.map (Value.int .i64)) (ys := [x78].map (Value.int .i64)) w.heap.size el_i64 rfl rfl rfl (by simpa using (own_below O20 B86)) (own_row O81') (int_one _) (by first | (simp only [List.length_map, List.length_nil]; omega) | (simp only [List.length_map, List.length_cons, List.length_nil]; omega) | (simp; done) | (simp; omega)) (by decide) B85.size ?_
        intro v87 w88 O89 G90 A91
        have O89' := own_appF O89
        have B92 : Below w.heap.size w w88 := below_grew B85 G90 (own_below O20 B86) (Nat.le_refl _) (B85.size)
        refine EL_val v87 w88 rfl (r_assign rfl) ?_
        refine EL_nil ?_
        refine thn_n ?_
        refine EC_reg ?_
        refine EL_val (.int .i64 x77) w88 rfl (r_move rfl) ?_
        refine EL_int (x77 / 256) rfl (r_quoi rfl rfl (by omega) (by omega)) ?_
        intro x95 hx95
        refine EL_val (.int .i64 x95) w88 rfl (r_assign rfl) ?_
        refine EL_nil ?_
        refine inB_n ?_
        refine thn_n ?_
        refine EC_reg ?_
        refine EL_val (.int .i64 i) w88 rfl (r_move (by exact e13)) ?_
        refine EL_int (i + 1) rfl (r_addi rfl rfl (by omega)) ?_
        intro x96 hx96
        refine EL_val (.int .i64 x96) w88 rfl (r_assign rfl) ?_
        refine EL_nil ?_
        refine thn_n ?_
        have gnoa : a.getD i.toNat 0 = 0 := getD_no (by omega)
        have inv := add_inv (c' := x77) (show ol.length = i.toNat from by omega) hv (by rw [gnoa, ghx76]; omega)
        rw [← hx78, ← hx95, show i.toNat + 1 = (x96 : Int).toNat from by omega] at inv
        refine ⟨_, ?_, x96, x95, v87, ol ++ [x78], rfl, rfl, rfl, rfl, (by exact e16), (by exact e17), (by exact e18), by simp; omega, by omega, dig_app hd (dig_one (by omega)), inv, B92, O89'⟩
        first | omega | (simp; omega)
      · refine EC_skip ?_
        refine thn_n ?_
        refine EC_seq ?_
        refine EC_reg ?_
        refine EL_val ov w12 rfl (r_move (by exact e15)) ?_
        refine EL_val (.int .i64 c) w12 rfl (r_move (by exact e14)) ?_
        refine EL_int (c % 256) rfl (r_remi rfl rfl (by omega) (by omega)) ?_
        intro x97 hx97
        refine EL_lit w12.heap.size #[.int .i64 x97] el_i64 rfl (by decide) rfl (Nat.le_refl _) (by kernel_rfl) ?_
        intro v98 w99 O100 B101 k102 z103
        have B104 : Below w.heap.size w w99 := below_full B19 B19.size B101
        have B105 : Below w12.heap.size w12 w99 := B101
        have O100' := own_eqF (f := Value.int .i64) (l := [x97]) O100 rfl
        refine EL_append (v := ov) (xs := ol.map (Value.int .i64)) (ys := [x97].map (Value.int .i64)) w.heap.size el_i64 rfl rfl rfl (by simpa using (own_below O20 B105)) (own_row O100') (int_one _) (by first | (simp only [List.length_map, List.length_nil]; omega) | (simp only [List.length_map, List.length_cons, List.length_nil]; omega) | (simp; done) | (simp; omega)) (by decide) B104.size ?_
        intro v106 w107 O108 G109 A110
        have O108' := own_appF O108
        have B111 : Below w.heap.size w w107 := below_grew B104 G109 (own_below O20 B105) (Nat.le_refl _) (B104.size)
        refine EL_val v106 w107 rfl (r_assign rfl) ?_
        refine EL_nil ?_
        refine thn_n ?_
        refine EC_reg ?_
        refine EL_val (.int .i64 c) w107 rfl (r_move (by exact e14)) ?_
        refine EL_int (c / 256) rfl (r_quoi rfl rfl (by omega) (by omega)) ?_
        intro x114 hx114
        refine EL_val (.int .i64 x114) w107 rfl (r_assign rfl) ?_
        refine EL_nil ?_
        refine inB_n ?_
        refine thn_n ?_
        refine EC_reg ?_
        refine EL_val (.int .i64 i) w107 rfl (r_move (by exact e13)) ?_
        refine EL_int (i + 1) rfl (r_addi rfl rfl (by omega)) ?_
        intro x115 hx115
        refine EL_val (.int .i64 x115) w107 rfl (r_assign rfl) ?_
        refine EL_nil ?_
        refine thn_n ?_
        have gnoa : a.getD i.toNat 0 = 0 := getD_no (by omega)
        have gnob : b.getD i.toNat 0 = 0 := getD_no (by omega)
        have inv := add_inv (c' := c) (show ol.length = i.toNat from by omega) hv (by rw [gnoa, gnob]; omega)
        rw [← hx97, ← hx114, show i.toNat + 1 = (x115 : Int).toNat from by omega] at inv
        refine ⟨_, ?_, x115, x114, v106, ol ++ [x97], rfl, rfl, rfl, rfl, (by exact e16), (by exact e17), (by exact e18), by simp; omega, by omega, dig_app hd (dig_one (by omega)), inv, B111, O108'⟩
        first | omega | (simp; omega)
  · simp at h27
    refine EC_exit ?_
    refine thn_x ?_
    refine thn_x ?_
    refine inB_hit ?_
    refine thn_n ?_
    refine EC_seq ?_
    refine EC_reg ?_
    refine EL_val ov w12 rfl (r_move (by exact e15)) ?_
    refine EL_val ov w12 rfl (r_assign rfl) ?_
    refine EL_nil ?_
    refine thn_n ?_
    refine EC_ret ?_
    refine fin1 Try.results43 (show _ = ov from rfl) ⟨_, rfl, ?_⟩
    have e0 : c = 0 := by omega
    rw [e0, val_drop0 (a := a) (by omega), val_drop0 (a := b) (by omega)] at hv
    exact ⟨ol, O20, B19, hd, by simpa using hv, by omega, by omega, by omega⟩

end Go.Proofs.Ytlhaojpkejpgfaa
