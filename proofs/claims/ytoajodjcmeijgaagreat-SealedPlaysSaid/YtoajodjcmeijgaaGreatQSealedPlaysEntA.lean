import Derived.Test.YtoajodjcmeijgaaGreatQSealedPlaysEntry
import Derived.Test.YtoajodjcmeijgaaGreatQSealedPlaysRdA
set_option linter.unusedVariables false
set_option linter.unusedSimpArgs false
namespace Go.Proofs.YtoajodjcmeijgaaGreat
open Go.RowKit Go.Ecal
def wrapR : Rep WrapT := ⟨2, fun I cs a => ∃ v1, cs = [.int .i64 a.who, v1] ∧ (-9223372036854775808 ≤ a.who ∧ a.who ≤ 9223372036854775807) ∧ (v1.oneCell' = true ∧ RoB I v1 a.box), fun k h => by obtain ⟨v1, rfl, h0, ⟨o1, h1⟩⟩ := h; exact ⟨v1, rfl, h0, ⟨o1, h1.up k⟩⟩,
  fun h => by obtain ⟨v1, rfl, h0, ⟨o1, h1⟩⟩ := h; rfl, fun h u hu => by
    obtain ⟨v1, rfl, h0, ⟨o1, h1⟩⟩ := h
    simp only [List.mem_cons, List.not_mem_nil, or_false] at hu
    rcases hu with rfl | rfl <;> first | rfl | assumption⟩
def entR : Rep Entry := ⟨9, fun I cs a => ∃ v3 v4 v8, cs = [.int .i64 a.kind, .int .i64 a.writer, .int .i64 a.seq, v3, v4, .int .i64 a.who, .int .i64 a.rights, .int .i64 a.epoch, v8] ∧ (-9223372036854775808 ≤ a.kind ∧ a.kind ≤ 9223372036854775807) ∧ (-9223372036854775808 ≤ a.writer ∧ a.writer ≤ 9223372036854775807) ∧ (-9223372036854775808 ≤ a.seq ∧ a.seq ≤ 9223372036854775807) ∧ (v3.oneCell' = true ∧ RoB I v3 a.name) ∧ (v4.oneCell' = true ∧ RoB I v4 a.value) ∧ (-9223372036854775808 ≤ a.who ∧ a.who ≤ 9223372036854775807) ∧ (-9223372036854775808 ≤ a.rights ∧ a.rights ≤ 9223372036854775807) ∧ (-9223372036854775808 ≤ a.epoch ∧ a.epoch ≤ 9223372036854775807) ∧ (v8.oneCell' = true ∧ RoX I v8 wrapR a.wraps), fun k h => by obtain ⟨v3, v4, v8, rfl, h0, h1, h2, ⟨o3, h3⟩, ⟨o4, h4⟩, h5, h6, h7, ⟨o8, h8⟩⟩ := h; exact ⟨v3, v4, v8, rfl, h0, h1, h2, ⟨o3, h3.up k⟩, ⟨o4, h4.up k⟩, h5, h6, h7, ⟨o8, h8.up k⟩⟩,
  fun h => by obtain ⟨v3, v4, v8, rfl, h0, h1, h2, ⟨o3, h3⟩, ⟨o4, h4⟩, h5, h6, h7, ⟨o8, h8⟩⟩ := h; rfl, fun h u hu => by
    obtain ⟨v3, v4, v8, rfl, h0, h1, h2, ⟨o3, h3⟩, ⟨o4, h4⟩, h5, h6, h7, ⟨o8, h8⟩⟩ := h
    simp only [List.mem_cons, List.not_mem_nil, or_false] at hu
    rcases hu with rfl | rfl | rfl | rfl | rfl | rfl | rfl | rfl | rfl <;> first | rfl | assumption⟩
abbrev entRC (a : Entry) (v3 v4 v8 : Value) : List Value := [.int .i64 a.kind, .int .i64 a.writer, .int .i64 a.seq, v3, v4, .int .i64 a.who, .int .i64 a.rights, .int .i64 a.epoch, v8]
abbrev entR0 : List Value := [.int .i64 0, .int .i64 0, .int .i64 0, .slice none 0 0, .slice none 0 0, .int .i64 0, .int .i64 0, .int .i64 0, .slice none 0 0]
theorem entRz (I : Gh) : entR.r I entR0 (⟨0, 0, 0, [], [], 0, 0, 0, []⟩ : Entry) := ⟨_, _, _, rfl, (by dsimp only; omega), (by dsimp only; omega), (by dsimp only; omega), ⟨rfl, Ro.nil⟩, ⟨rfl, Ro.nil⟩, (by dsimp only; omega), (by dsimp only; omega), (by dsimp only; omega), ⟨rfl, RoX.nil⟩⟩
set_option maxRecDepth 100000 in
set_option maxHeartbeats 4000000 in
theorem within_c (n : Int) (lo : Int) (hi : Int) (w : World) : Ret Tryz.prog 92 [.int .i64 n, .int .i64 lo, .int .i64 hi] w fun v w' => .bool (within n lo hi) = v ∧ Below w.heap.size w w' := by
  have S := Sat.start w
  refine ret_E Tryz.func92 rfl Tryz.ntmps92 (by simp) ?_
  refine EC_seq (EC_reg (vA (.bool false) rfl rfl (EL_nil (thn_n (EC_seq ?_)))))
  refine EC_reg (vM (.int .i64 n) rfl rfl (vM (.int .i64 lo) rfl rfl (vl (.bool (decide (lo ≤ n))) rfl (r_geq rfl rfl) (vM (.bool (decide (lo ≤ n))) rfl rfl (EL_gite 10 rfl rfl rfl (.int .i64 n) rfl (fun g11 => r_move rfl) ?_)))))
  refine EL_gite 10 rfl rfl rfl (.int .i64 hi) rfl (fun g12 => r_move rfl) (EL_gite 10 rfl rfl rfl (.bool (decide (n ≤ hi))) rfl (fun g13 => r_leq (cond_of g13 rfl) (cond_of g13 rfl)) (vl (.bool ((decide (lo ≤ n)) && (decide (n ≤ hi)))) rfl (r_and rfl rfl rfl) (vA (.bool ((decide (lo ≤ n)) && (decide (n ≤ hi)))) rfl rfl (EL_nil (thn_n ?_)))))
  refine EC_ret ?_
  refine fin1 Tryz.results92 (show _ = .bool ((decide (lo ≤ n)) && (decide (n ≤ hi))) from rfl) ⟨_, rfl, ?_⟩
  exact ⟨rfl, (Below.refl _ _)⟩

set_option maxRecDepth 100000 in
set_option maxHeartbeats 4000000 in
theorem Equal_c (v0 : Value) (l : List UInt8) (v1 : Value) (m : List UInt8) (I : Gh) (R : List HP) (w : World) (S : Sat w I (R)) (Q0 : RoB I v0 l) (Q1 : RoB I v1 m) : Ret Tryz.prog 62 [v0, v1] w fun v w' => .bool (decide (l = m)) = v ∧ Sat w' I (R) := by
  have lq0 := RoB.le Q0 S.le
  have lq1 := RoB.le Q1 S.le
  refine ret_E Tryz.func62 rfl Tryz.ntmps62 (by simp) ?_
  refine EC_seq (EC_reg (vA (.bool false) rfl rfl (EL_nil (thn_n (EC_seq ?_)))))
  refine EC_seq (EC_reg (vM v0 rfl rfl (vl (.int .i64 (l.length : Int)) rfl (lenB (r_len rfl (Q0 _ S.le) U22)) (vM v1 rfl rfl (vl (.int .i64 (m.length : Int)) rfl (lenB (r_len rfl (Q1 _ S.le) U22)) ?_)))))
  refine vl (.bool (decide ((l.length : Int) ≠ (m.length : Int)))) rfl (r_neq rfl rfl) (EL_nil (thn_n ?_))
  refine EC_if (p := (l.length : Int) ≠ (m.length : Int)) rfl (fun h11 => ?_) (fun h11 => ?_)
  have hne : ¬ l.length = m.length := by simp at h11; omega
  refine EC_seq (EC_reg (vA (.bool false) rfl rfl (EL_nil (thn_n (EC_ret ?_)))))
  refine thn_r ?_
  refine fin1 Tryz.results62 (show _ = .bool false from rfl) ⟨_, rfl, ?_⟩
  exact ⟨(by rw [decide_eq_false (fun h => hne (by rw [h]))]), S⟩
  have hle : l.length = m.length := by simp at h11; omega
  refine EC_skip (thn_n (EC_seq (EC_seq (EC_reg (vM v0 rfl rfl ?_)))))
  refine vl (.int .i64 (l.length : Int)) rfl (lenB (r_len rfl (Q0 _ S.le) U22)) (vM (.int .i64 0) rfl rfl (EL_nil (thn_n (EC_block ?_))))
  refine EC_loop (fun m' E' w' => ∃ j : Nat, m' = l.length - j ∧ E' 13 = .int .i64 (j : Int) ∧ E' 0 = v0 ∧ E' 1 = v1 ∧ E' 12 = .int .i64 (l.length : Int) ∧ (j ≤ l.length) ∧ (l.take j = m.take j) ∧ Sat w' I (R)) _ ⟨0, rfl, rfl, rfl, rfl, rfl, Nat.zero_le _, by simp, S⟩ ?_
  rintro _ E12 w13 ⟨j, rfl, e14, e15, e16, e17, hj, hlm, S18⟩
  refine EC_seq (EC_reg (vl (.bool (decide ((j : Int) < (l.length : Int)))) rfl (r_lss (by exact e14) (by exact e17)) (EL_nil (thn_n (EC_seq ?_)))))
  refine EC_if (p := (j : Int) < (l.length : Int)) rfl (fun h19 => ?_) (fun h19 => ?_)
  refine EC_skip (thn_n (EC_seq (EC_block (EC_seq (EC_reg ?_)))))
  refine vM (.int .i64 (j : Int)) rfl e14 (vA (.int .i64 (j : Int)) rfl rfl (EL_nil (thn_n (EC_seq ?_))))
  refine EC_quietB (by kernel_rfl) (by kernel_rfl) ?_
  refine EQ_val v0 rfl (fun _ hw => r_move (by exact e15)) (qM (.int .i64 (j : Int)) rfl rfl (EQ_val (.pointer (some (at_ v0 (((j : Int) : Int).toNat)))) rfl (fun _ hw => r_index rfl ((Q0 _ S18.le).below hw) rfl (by omega) (by first | omega | (simp; omega) | simp) U22 (by kernel_rfl)) ?_))
  obtain ⟨b20, hb21⟩ := get_some (l := l) (j := ((j : Int) : Int).toNat) (by first | omega | (simp; omega) | simp)
  have hb22 := b20.toNat_lt
  refine EQ_val (.int .u8 (b20.toNat : Int)) rfl (fun _ hw => r_load rfl (((Q0 _ S18.le).below hw).cell (bs_get hb21)) U5 rfl) (EQ_val v1 rfl (fun _ hw => r_move (by exact e16)) (qM (.int .i64 (j : Int)) rfl rfl (EQ_val (.pointer (some (at_ v1 (((j : Int) : Int).toNat)))) rfl (fun _ hw => r_index rfl ((Q1 _ S18.le).below hw) rfl (by omega) (by first | omega | (simp; omega) | simp) U22 (by kernel_rfl)) ?_)))
  obtain ⟨b23, hb24⟩ := get_some (l := m) (j := ((j : Int) : Int).toNat) (by first | omega | (simp; omega) | simp)
  have hb25 := b23.toNat_lt
  refine EQ_val (.int .u8 (b23.toNat : Int)) rfl (fun _ hw => r_load rfl (((Q1 _ S18.le).below hw).cell (bs_get hb24)) U5 rfl) (EQ_val (.bool (decide ((b20.toNat : Int) ≠ (b23.toNat : Int)))) rfl (fun _ hw => r_neq rfl rfl) ?_)
  refine EQ_nil ?_
  intro w26 B27
  have S28 := S18.below B27
  refine thn_n ?_
  refine EC_if (p := (b20.toNat : Int) ≠ (b23.toNat : Int)) rfl (fun h29 => ?_) (fun h29 => ?_)
  have hab : b20 ≠ b23 := fun h => h29 (by rw [h])
  refine EC_seq (EC_reg (vA (.bool false) rfl rfl (EL_nil (thn_n (EC_ret ?_)))))
  refine inB_r (thn_r (thn_r (inB_r (thn_r ?_))))
  refine fin1 Tryz.results62 (show _ = .bool false from rfl) ⟨_, rfl, ?_⟩
  exact ⟨(by rw [decide_eq_false (fun h => hab (by have h1 := hb21; rw [h] at h1; exact Option.some.inj (h1.symm.trans hb24)))]), S28⟩
  have hab : b20 = b23 := UInt8.toNat_inj.1 (by omega)
  refine EC_skip (inB_n (thn_n (EC_reg ?_)))
  refine EL_int ((j : Int) + 1) rfl (r_addi (by exact e14) rfl (by omega)) ?_
  intro x30 hx30
  refine vM (.int .i64 x30) rfl rfl (EL_nil (thn_n ?_))
  refine ⟨_, ?_, j + 1, rfl, (Eq.trans (show _ = Value.int .i64 x30 from rfl) (congrArg _ (by omega))), (by exact e15), (by exact e16), (by exact e17), by omega, (by rw [List.take_add_one, List.take_add_one, hlm, (show l[j]? = _ from hb21), (show m[j]? = _ from hb24), hab]), S28⟩
  first | omega | (simp; omega)
  refine EC_exit (thn_x (thn_x (inB_hit (thn_n (EC_seq ?_)))))
  refine EC_reg (vA (.bool true) rfl rfl (EL_nil (thn_n (EC_ret ?_))))
  refine fin1 Tryz.results62 (show _ = .bool true from rfl) ⟨_, rfl, ?_⟩
  exact ⟨(by rw [decide_eq_true (by rwa [List.take_of_length_le (by omega), List.take_of_length_le (by omega)] at hlm)]), S18⟩

end Go.Proofs.YtoajodjcmeijgaaGreat
