import Derived.Test.YtoajodjcmeijgaaQSealedHidesRdA
import Derived.Test.YtoajodjcmeijgaaQSealedHidesRef08
set_option linter.unusedVariables false
set_option linter.unusedSimpArgs false
namespace Go.Proofs.Ytoajodjcmeijgaa
open Go.RowKit Go.Ecal

set_option maxRecDepth 100000 in
set_option maxHeartbeats 4000000 in
theorem Num8_c (n : Int) (I : Gh) (R : List HP) (w : World) (S : Sat w I (R)) (hn : 0 ≤ n ∧ n ≤ 1099511627776) : Ret Try.prog 38 [.int .i64 n] w fun v w' => ∃ v1 : Value, v1 = v ∧ Sat w' I (OwnB v1 (be6 n) :: R) := by
  refine ret_E Try.func38 rfl Try.ntmps38 (by simp) ?_
  refine EC_seq ?_
  refine EC_reg ?_
  refine EL_val (.slice none 0 0) w rfl (r_assign rfl) ?_
  refine EL_nil ?_
  refine thn_n ?_
  refine EC_seq ?_
  refine EC_reg ?_
  refine EL_make w.heap.size elB rfl rfl rfl rfl (by omega) (by omega) (by omega) (by omega) (Nat.le_refl _) ?_
  intro v11 w12 O13 B14 k15 z16
  have S17 : Sat w12 I (OwnB v11 (List.replicate 6 (0 : UInt8)) :: R) := S.newO B14 (own_rep O13)
  refine EL_val v11 w12 rfl (r_assign rfl) ?_
  refine EL_nil ?_
  refine thn_n ?_
  refine EC_seq ?_
  refine EC_seq ?_
  refine EC_reg ?_
  refine EL_val (.int .i64 5) w12 rfl (r_assign rfl) ?_
  refine EL_nil ?_
  refine thn_n ?_
  refine EC_block ?_
  have q19 : List.replicate 6 (0 : UInt8) = sixL n 0 := six_zero n
  have S18 := S17.ab0 q19
  refine EC_loop (fun m' E' w' => ∃ j : Nat, ∃ q : Int, m' = 7 - j ∧ E' 4 = .int .i64 (5 - (j : Int)) ∧ E' 0 = .int .i64 q ∧ E' 2 = .slice none 0 0 ∧ E' 3 = v11 ∧ (j ≤ 6) ∧ (q = n / 256 ^ j) ∧ (0 ≤ q ∧ q ≤ 1099511627776) ∧ Sat w' I (OwnB v11 (sixL n j) :: R)) _ ⟨0, n, rfl, (Eq.trans (show _ = Value.int .i64 5 from rfl) (congrArg _ (by omega))), rfl, rfl, rfl, by omega, by simp, by omega, S18⟩ ?_
  rintro _ E20 w21 ⟨j, q, rfl, e22, e23, e24, e25, hj, hq, hr, S26⟩
  refine EC_seq ?_
  refine EC_seq ?_
  refine EC_reg ?_
  refine EL_val (.int .i64 (5 - (j : Int))) w21 rfl (r_move (by exact e22)) ?_
  refine EL_val (.bool (decide (0 ≤ (5 - (j : Int))))) w21 rfl (r_geq rfl rfl) ?_
  refine EL_nil ?_
  refine thn_n ?_
  refine EC_if (p := 0 ≤ (5 - (j : Int))) rfl (fun h27 => ?_) (fun h27 => ?_)
  · refine EC_skip ?_
    refine thn_n ?_
    refine EC_seq ?_
    refine EC_block ?_
    refine EC_seq ?_
    refine EC_reg ?_
    refine EL_val v11 w21 rfl (r_move (by exact e25)) ?_
    refine EL_val (.int .i64 (5 - (j : Int))) w21 rfl (r_move (by exact e22)) ?_
    refine EL_val (.int .i64 q) w21 rfl (r_move (by exact e23)) ?_
    refine EL_int (q % 256) rfl (r_remi rfl rfl (by omega) (by omega)) ?_
    intro x28 hx28
    refine EL_val (.int .u8 (x28 % 256)) w21 rfl (r_convb 3 5 rfl Try.underlying3 Try.underlying5) ?_
    have hl6 := six_len (n := n) (j := j) (by omega)
    refine EL_val (.pointer (some (at_ v11 ((5 - (j : Int) : Int).toNat)))) w21 rfl (r_index rfl (own_row (S26.own 0 rfl)) rfl (by omega) (by first | omega | (simp; omega) | simp) Try.underlying22 (by kernel_rfl)) ?_
    refine EL_store (u := byt (bof x28)) rfl (Eq.trans (show _ = Value.int .u8 (x28 % 256) from rfl) (bof_val _)) (S26.own 0 rfl) (by first | omega | (simp; done) | (simp; omega)) rfl (by kernel_rfl) ?_
    intro w29 O30 G31 z32
    have S33 := S26.gb0 G31 (own_set O30) (.inl rfl)
    refine EL_nil ?_
    refine thn_n ?_
    refine EC_reg ?_
    refine EL_val (.int .i64 q) w29 rfl (r_move (by exact e23)) ?_
    refine EL_int (q / 256) rfl (r_quoi rfl rfl (by omega) (by omega)) ?_
    intro x34 hx34
    refine EL_val (.int .i64 x34) w29 rfl (r_assign rfl) ?_
    refine EL_nil ?_
    refine inB_n ?_
    refine thn_n ?_
    refine EC_reg ?_
    refine EL_val (.int .i64 (5 - (j : Int))) w29 rfl (r_move (by exact e22)) ?_
    refine EL_int ((5 - (j : Int)) - 1) rfl (r_subi rfl rfl (by omega)) ?_
    intro x35 hx35
    refine EL_val (.int .i64 x35) w29 rfl (r_assign rfl) ?_
    refine EL_nil ?_
    refine thn_n ?_
    have hx9 : bof x28 = bof (n / 256 ^ j) := by rw [hx28, bof_mod, hq]
    have q37 : (sixL n j).set ((5 - (j : Int) : Int).toNat) (bof x28) = sixL n (j + 1) := by rw [hx9]; exact six_set (by omega) (by omega)
    have S36 := S33.ab0 q37
    refine ⟨_, ?_, j + 1, x34, rfl, (Eq.trans (show _ = Value.int .i64 x35 from rfl) (congrArg _ (by omega))), rfl, (by exact e24), (by exact e25), by omega, by rw [hx34]; exact six_next n q j hq, by omega, S36⟩
    first | omega | (simp; omega)
  · refine EC_exit ?_
    refine thn_x ?_
    refine thn_x ?_
    refine inB_hit ?_
    refine thn_n ?_
    refine EC_seq ?_
    refine EC_reg ?_
    refine EL_val v11 w21 rfl (r_move (by exact e25)) ?_
    refine EL_val v11 w21 rfl (r_assign rfl) ?_
    refine EL_nil ?_
    refine thn_n ?_
    refine EC_ret ?_
    refine fin1 Try.results38 (show _ = v11 from rfl) ⟨_, rfl, ?_⟩
    have ej : j = 6 := by omega
    have q39 : sixL n j = be6 n := by rw [ej]; exact six_end n
    have S38 := S26.ab0 q39
    exact ⟨v11, rfl, S38⟩

set_option maxRecDepth 100000 in
set_option maxHeartbeats 4000000 in
theorem Text8_c (v0 : Value) (l : List UInt8) (I : Gh) (R : List HP) (w : World) (S : Sat w I (R)) (Q0 : RoB I v0 l) (hl : l.length ≤ 1000000000) : Ret Try.prog 20 [v0] w fun v w' => ∃ v1 : Value, v1 = v ∧ Sat w' I (OwnB v1 (be2 (l.length : Int) ++ l) :: R) := by
  have lq0 := RoB.le Q0 S.le
  refine ret_E Try.func20 rfl Try.ntmps20 (by simp) ?_
  refine EC_seq ?_
  refine EC_reg ?_
  refine EL_val (.slice none 0 0) w rfl (r_assign rfl) ?_
  refine EL_nil ?_
  refine thn_n ?_
  refine EC_seq ?_
  refine EC_reg ?_
  refine EL_val v0 w rfl (r_move rfl) ?_
  refine EL_val (.int .i64 (l.length : Int)) w rfl (lenB (r_len rfl (Q0 _ S.le) Try.underlying22)) ?_
  refine EL_int ((l.length : Int) / 256) rfl (r_quoi rfl rfl (by omega) (by omega)) ?_
  intro x11 hx11
  refine EL_val (.int .u8 (x11 % 256)) w rfl (r_convb 3 5 rfl Try.underlying3 Try.underlying5) ?_
  refine EL_val v0 w rfl (r_move rfl) ?_
  refine EL_val (.int .i64 (l.length : Int)) w rfl (lenB (r_len rfl (Q0 _ S.le) Try.underlying22)) ?_
  refine EL_int ((l.length : Int) % 256) rfl (r_remi rfl rfl (by omega) (by omega)) ?_
  intro x12 hx12
  refine EL_val (.int .u8 (x12 % 256)) w rfl (r_convb 3 5 rfl Try.underlying3 Try.underlying5) ?_
  refine EL_lit w.heap.size #[.int .u8 (x11 % 256), .int .u8 (x12 % 256)] elB rfl (by decide) rfl (Nat.le_refl _) (by kernel_rfl) ?_
  intro v13 w14 O15 B16 k17 z18
  have S19 : Sat w14 I (OwnB v13 [bof x11, bof x12] :: R) := S.newO B16 (own_eq (l := [bof x11, bof x12]) O15 (by simp [bof_val, byt]))
  refine EL_val v0 w14 rfl (r_move rfl) ?_
  refine EL_append (v := v13) (xs := [bof x11, bof x12].map byt) (ys := l.map byt) 0 elB rfl rfl rfl (own_len (S19.own 0 rfl)) (Q0 _ S19.le) (byt_one _) (by first | (simp only [List.length_map, List.length_nil, List.length_append]; omega) | (simp; done) | (simp; omega)) (by decide) (Nat.zero_le _) ?_
  intro v20 w21 O22 G23 A24
  have S25 := S19.gb0 G23 (own_app O22) A24
  refine EL_val v20 w21 rfl (r_assign rfl) ?_
  refine EL_nil ?_
  refine thn_n ?_
  refine EC_ret ?_
  refine fin1 Try.results20 (show _ = v20 from rfl) ⟨_, rfl, ?_⟩
  have q27 : [bof x11, bof x12] ++ l = be2 (l.length : Int) ++ l := by simp [be2, bof_mod, hx11, hx12]
  have S26 := S25.ab0 q27
  exact ⟨v20, rfl, S26⟩

end Go.Proofs.Ytoajodjcmeijgaa
