import Derived.Test.YtoajodjcmeijgaaQSealedHidesSea
import Derived.Test.YtoajodjcmeijgaaQSealedHidesRef15
import Derived.Test.YtoajodjcmeijgaaQSealedHidesR08
set_option linter.unusedVariables false
set_option linter.unusedSimpArgs false
namespace Go.Proofs.Ytoajodjcmeijgaa
open Go.RowKit Go.Ecal

set_option maxRecDepth 100000 in
set_option maxHeartbeats 4000000 in
theorem Size13_c (n : Int) (I : Gh) (R : List HP) (w : World) (S : Sat w I (R)) (hn : -9223372036854775808 ≤ n ∧ n ≤ 9223372036854775807) : Ret Try.prog 13 [.int .i64 n] w fun v w' => .int .i64 (bsize n) = v ∧ Sat w' I (R) := by
  refine ret_E Try.func13 rfl Try.ntmps13 (by simp) ?_
  refine EC_seq ?_
  refine EC_reg ?_
  refine EL_val (.int .i64 0) w rfl (r_assign rfl) ?_
  refine EL_nil ?_
  refine thn_n ?_
  refine EC_seq ?_
  refine EC_reg ?_
  refine EL_val (.agg ([.int .i64 64, .int .i64 128, .int .i64 256, .int .i64 512, .int .i64 1024, .int .i64 2048]).toArray) w rfl (r_buildA (z := .agg #[.int .i64 0, .int .i64 0, .int .i64 0, .int .i64 0, .int .i64 0, .int .i64 0]) ([.int .i64 64, .int .i64 128, .int .i64 256, .int .i64 512, .int .i64 1024, .int .i64 2048]).toArray Try.underlying66 (by kernel_rfl) (by kernel_rfl) (by kernel_rfl)) ?_
  refine EL_alloc (z := .agg #[.int .i64 0, .int .i64 0, .int .i64 0, .int .i64 0, .int .i64 0, .int .i64 0]) [.int .i64 0, .int .i64 0, .int .i64 0, .int .i64 0, .int .i64 0, .int .i64 0] rfl (by kernel_rfl) rfl ?_
  intro b11 w12 k13 A14 B15 z16
  have S17 := S.newB B15 A14 k13
  refine EL_storeAll (v := .agg ([.int .i64 64, .int .i64 128, .int .i64 256, .int .i64 512, .int .i64 1024, .int .i64 2048]).toArray) (cs' := ([.int .i64 64, .int .i64 128, .int .i64 256, .int .i64 512, .int .i64 1024, .int .i64 2048]).toArray) rfl rfl rfl (S17.arr 0 rfl) rfl (by kernel_rfl) (by decide) ?_
  intro w18 A19 K20 z21
  have S22 := S17.wr0 (ds := [.int .i64 64, .int .i64 128, .int .i64 256, .int .i64 512, .int .i64 1024, .int .i64 2048]) K20 A19
  refine EL_nil ?_
  refine thn_n ?_
  refine EC_seq ?_
  refine EC_seq ?_
  refine EC_reg ?_
  refine EL_val (.int .i64 0) w18 rfl (r_assign rfl) ?_
  refine EL_nil ?_
  refine thn_n ?_
  refine EC_block ?_
  refine EC_loop (fun m' E' w' => ∃ j : Nat, m' = 6 - j ∧ E' 4 = .int .i64 (j : Int) ∧ E' 0 = .int .i64 n ∧ E' 3 = ptr b11 ∧ (j ≤ 6) ∧ (n < 0 ∨ ((0 < j → 62 < n) ∧ (1 < j → 126 < n) ∧ (2 < j → 254 < n) ∧ (3 < j → 510 < n) ∧ (4 < j → 1022 < n) ∧ (5 < j → 2046 < n))) ∧ Sat w' I (Blk b11 66 [.int .i64 64, .int .i64 128, .int .i64 256, .int .i64 512, .int .i64 1024, .int .i64 2048] :: R)) _ ⟨0, rfl, rfl, rfl, rfl, by omega, by omega, S22⟩ ?_
  rintro _ E23 w24 ⟨j, rfl, e25, e26, e27, hj, hN, S28⟩
  refine EC_seq ?_
  refine EC_seq ?_
  refine EC_reg ?_
  refine EL_val (.int .i64 (j : Int)) w24 rfl (r_move (by exact e25)) ?_
  refine EL_val (.bool (decide ((j : Int) < 6))) w24 rfl (r_lss rfl rfl) ?_
  refine EL_nil ?_
  refine thn_n ?_
  refine EC_if (p := (j : Int) < 6) rfl (fun h29 => ?_) (fun h29 => ?_)
  · refine EC_skip ?_
    refine thn_n ?_
    refine EC_seq ?_
    refine EC_block ?_
    refine EC_seq ?_
    rcases (by omega : j = 0 ∨ j = 1 ∨ j = 2 ∨ j = 3 ∨ j = 4 ∨ j = 5) with hj0 | hj0 | hj0 | hj0 | hj0 | hj0
    · refine EC_reg ?_
      refine EL_val (.int .i64 n) w24 rfl (r_move (by exact e26)) ?_
      refine EL_val (.bool (decide (0 ≤ n))) w24 rfl (r_geq rfl rfl) ?_
      refine EL_val (.bool (decide (0 ≤ n))) w24 rfl (r_move rfl) ?_
      refine EL_gite 12 rfl rfl rfl (.int .i64 n) rfl (fun g30 => r_move (by exact e26)) ?_
      refine EL_gite 12 rfl rfl rfl (.int .i64 (j : Int)) rfl (fun g31 => r_move (by exact e25)) ?_
      refine EL_gite 12 rfl rfl rfl (ptr b11 (0 + ((j : Int) : Int).toNat)) rfl (fun g32 => r_indexP (i := (j : Int)) (by exact e27) (cond_of g32 rfl) (by omega) (by omega) Try.underlying66 (by kernel_rfl)) ?_
      refine EL_gite 12 rfl rfl rfl (.int .i64 64) rfl (fun g33 => r_loadA (cond_of g33 rfl) (S28.arr 0 rfl) (u := (.int .i64 64)) (by rw [hj0]; rfl) Try.underlying3 rfl) ?_
      refine EL_gite 12 rfl rfl rfl (.int .i64 62) rfl (fun g34 => r_asn (by kernel_rfl) (r_sub (cond_of g34 rfl) rfl)) ?_
      refine EL_gite 12 rfl rfl rfl (.bool (decide (n ≤ 62))) rfl (fun g35 => r_leq (cond_of g35 rfl) (cond_of g35 rfl)) ?_
      refine EL_val (.bool ((decide (0 ≤ n)) && (decide (n ≤ 62)))) w24 rfl (r_and rfl rfl rfl) ?_
      refine EL_nil ?_
      refine thn_n ?_
      refine EC_cond (t := (decide (0 ≤ n)) && (decide (n ≤ 62))) rfl (fun h36 => ?_) (fun h36 => ?_)
      · have hc9 := h36
        simp at hc9
        refine EC_seq ?_
        refine EC_reg ?_
        refine EL_val (.int .i64 (j : Int)) w24 rfl (r_move (by exact e25)) ?_
        refine EL_val (ptr b11 (0 + ((j : Int) : Int).toNat)) w24 rfl (r_indexP (i := (j : Int)) (by exact e27) rfl (by omega) (by omega) Try.underlying66 (by kernel_rfl)) ?_
        refine EL_val (.int .i64 64) w24 rfl (r_loadA rfl (S28.arr 0 rfl) (u := (.int .i64 64)) (by rw [hj0]; rfl) Try.underlying3 rfl) ?_
        refine EL_val (.int .i64 64) w24 rfl (r_assign rfl) ?_
        refine EL_nil ?_
        refine thn_n ?_
        refine EC_ret ?_
        refine inB_r ?_
        refine thn_r ?_
        refine thn_r ?_
        refine inB_r ?_
        refine thn_r ?_
        refine fin1 Try.results13 (show _ = .int .i64 64 from rfl) ⟨_, rfl, ?_⟩
        have S37 := S28.dr0
        exact ⟨(by rw [size13_at (n := n) (j := 0) (z := 64) (by omega) (by omega) (by omega) rfl (by omega)]), S37⟩
      · have hc9 := h36
        simp at hc9
        refine EC_skip ?_
        refine inB_n ?_
        refine thn_n ?_
        refine EC_reg ?_
        refine EL_val (.int .i64 (j : Int)) w24 rfl (r_move (by exact e25)) ?_
        refine EL_int ((j : Int) + 1) rfl (r_addi rfl rfl (by omega)) ?_
        intro x38 hx38
        refine EL_val (.int .i64 x38) w24 rfl (r_assign rfl) ?_
        refine EL_nil ?_
        refine thn_n ?_
        refine ⟨_, ?_, j + 1, rfl, (Eq.trans (show _ = Value.int .i64 x38 from rfl) (congrArg _ (by omega))), (by exact e26), (by exact e27), by omega, by omega, S28⟩
        first | omega | (simp; omega)
    · refine EC_reg ?_
      refine EL_val (.int .i64 n) w24 rfl (r_move (by exact e26)) ?_
      refine EL_val (.bool (decide (0 ≤ n))) w24 rfl (r_geq rfl rfl) ?_
      refine EL_val (.bool (decide (0 ≤ n))) w24 rfl (r_move rfl) ?_
      refine EL_gite 12 rfl rfl rfl (.int .i64 n) rfl (fun g39 => r_move (by exact e26)) ?_
      refine EL_gite 12 rfl rfl rfl (.int .i64 (j : Int)) rfl (fun g40 => r_move (by exact e25)) ?_
      refine EL_gite 12 rfl rfl rfl (ptr b11 (0 + ((j : Int) : Int).toNat)) rfl (fun g41 => r_indexP (i := (j : Int)) (by exact e27) (cond_of g41 rfl) (by omega) (by omega) Try.underlying66 (by kernel_rfl)) ?_
      refine EL_gite 12 rfl rfl rfl (.int .i64 128) rfl (fun g42 => r_loadA (cond_of g42 rfl) (S28.arr 0 rfl) (u := (.int .i64 128)) (by rw [hj0]; rfl) Try.underlying3 rfl) ?_
      refine EL_gite 12 rfl rfl rfl (.int .i64 126) rfl (fun g43 => r_asn (by kernel_rfl) (r_sub (cond_of g43 rfl) rfl)) ?_
      refine EL_gite 12 rfl rfl rfl (.bool (decide (n ≤ 126))) rfl (fun g44 => r_leq (cond_of g44 rfl) (cond_of g44 rfl)) ?_
      refine EL_val (.bool ((decide (0 ≤ n)) && (decide (n ≤ 126)))) w24 rfl (r_and rfl rfl rfl) ?_
      refine EL_nil ?_
      refine thn_n ?_
      refine EC_cond (t := (decide (0 ≤ n)) && (decide (n ≤ 126))) rfl (fun h45 => ?_) (fun h45 => ?_)
      · have hc9 := h45
        simp at hc9
        refine EC_seq ?_
        refine EC_reg ?_
        refine EL_val (.int .i64 (j : Int)) w24 rfl (r_move (by exact e25)) ?_
        refine EL_val (ptr b11 (0 + ((j : Int) : Int).toNat)) w24 rfl (r_indexP (i := (j : Int)) (by exact e27) rfl (by omega) (by omega) Try.underlying66 (by kernel_rfl)) ?_
        refine EL_val (.int .i64 128) w24 rfl (r_loadA rfl (S28.arr 0 rfl) (u := (.int .i64 128)) (by rw [hj0]; rfl) Try.underlying3 rfl) ?_
        refine EL_val (.int .i64 128) w24 rfl (r_assign rfl) ?_
        refine EL_nil ?_
        refine thn_n ?_
        refine EC_ret ?_
        refine inB_r ?_
        refine thn_r ?_
        refine thn_r ?_
        refine inB_r ?_
        refine thn_r ?_
        refine fin1 Try.results13 (show _ = .int .i64 128 from rfl) ⟨_, rfl, ?_⟩
        have S46 := S28.dr0
        exact ⟨(by rw [size13_at (n := n) (j := 1) (z := 128) (by omega) (by omega) (by omega) rfl (by omega)]), S46⟩
      · have hc9 := h45
        simp at hc9
        refine EC_skip ?_
        refine inB_n ?_
        refine thn_n ?_
        refine EC_reg ?_
        refine EL_val (.int .i64 (j : Int)) w24 rfl (r_move (by exact e25)) ?_
        refine EL_int ((j : Int) + 1) rfl (r_addi rfl rfl (by omega)) ?_
        intro x47 hx47
        refine EL_val (.int .i64 x47) w24 rfl (r_assign rfl) ?_
        refine EL_nil ?_
        refine thn_n ?_
        refine ⟨_, ?_, j + 1, rfl, (Eq.trans (show _ = Value.int .i64 x47 from rfl) (congrArg _ (by omega))), (by exact e26), (by exact e27), by omega, by omega, S28⟩
        first | omega | (simp; omega)
    · refine EC_reg ?_
      refine EL_val (.int .i64 n) w24 rfl (r_move (by exact e26)) ?_
      refine EL_val (.bool (decide (0 ≤ n))) w24 rfl (r_geq rfl rfl) ?_
      refine EL_val (.bool (decide (0 ≤ n))) w24 rfl (r_move rfl) ?_
      refine EL_gite 12 rfl rfl rfl (.int .i64 n) rfl (fun g48 => r_move (by exact e26)) ?_
      refine EL_gite 12 rfl rfl rfl (.int .i64 (j : Int)) rfl (fun g49 => r_move (by exact e25)) ?_
      refine EL_gite 12 rfl rfl rfl (ptr b11 (0 + ((j : Int) : Int).toNat)) rfl (fun g50 => r_indexP (i := (j : Int)) (by exact e27) (cond_of g50 rfl) (by omega) (by omega) Try.underlying66 (by kernel_rfl)) ?_
      refine EL_gite 12 rfl rfl rfl (.int .i64 256) rfl (fun g51 => r_loadA (cond_of g51 rfl) (S28.arr 0 rfl) (u := (.int .i64 256)) (by rw [hj0]; rfl) Try.underlying3 rfl) ?_
      refine EL_gite 12 rfl rfl rfl (.int .i64 254) rfl (fun g52 => r_asn (by kernel_rfl) (r_sub (cond_of g52 rfl) rfl)) ?_
      refine EL_gite 12 rfl rfl rfl (.bool (decide (n ≤ 254))) rfl (fun g53 => r_leq (cond_of g53 rfl) (cond_of g53 rfl)) ?_
      refine EL_val (.bool ((decide (0 ≤ n)) && (decide (n ≤ 254)))) w24 rfl (r_and rfl rfl rfl) ?_
      refine EL_nil ?_
      refine thn_n ?_
      refine EC_cond (t := (decide (0 ≤ n)) && (decide (n ≤ 254))) rfl (fun h54 => ?_) (fun h54 => ?_)
      · have hc9 := h54
        simp at hc9
        refine EC_seq ?_
        refine EC_reg ?_
        refine EL_val (.int .i64 (j : Int)) w24 rfl (r_move (by exact e25)) ?_
        refine EL_val (ptr b11 (0 + ((j : Int) : Int).toNat)) w24 rfl (r_indexP (i := (j : Int)) (by exact e27) rfl (by omega) (by omega) Try.underlying66 (by kernel_rfl)) ?_
        refine EL_val (.int .i64 256) w24 rfl (r_loadA rfl (S28.arr 0 rfl) (u := (.int .i64 256)) (by rw [hj0]; rfl) Try.underlying3 rfl) ?_
        refine EL_val (.int .i64 256) w24 rfl (r_assign rfl) ?_
        refine EL_nil ?_
        refine thn_n ?_
        refine EC_ret ?_
        refine inB_r ?_
        refine thn_r ?_
        refine thn_r ?_
        refine inB_r ?_
        refine thn_r ?_
        refine fin1 Try.results13 (show _ = .int .i64 256 from rfl) ⟨_, rfl, ?_⟩
        have S55 := S28.dr0
        exact ⟨(by rw [size13_at (n := n) (j := 2) (z := 256) (by omega) (by omega) (by omega) rfl (by omega)]), S55⟩
      · have hc9 := h54
        simp at hc9
        refine EC_skip ?_
        refine inB_n ?_
        refine thn_n ?_
        refine EC_reg ?_
        refine EL_val (.int .i64 (j : Int)) w24 rfl (r_move (by exact e25)) ?_
        refine EL_int ((j : Int) + 1) rfl (r_addi rfl rfl (by omega)) ?_
        intro x56 hx56
        refine EL_val (.int .i64 x56) w24 rfl (r_assign rfl) ?_
        refine EL_nil ?_
        refine thn_n ?_
        refine ⟨_, ?_, j + 1, rfl, (Eq.trans (show _ = Value.int .i64 x56 from rfl) (congrArg _ (by omega))), (by exact e26), (by exact e27), by omega, by omega, S28⟩
        first | omega | (simp; omega)
    · refine EC_reg ?_
      refine EL_val (.int .i64 n) w24 rfl (r_move (by exact e26)) ?_
      refine EL_val (.bool (decide (0 ≤ n))) w24 rfl (r_geq rfl rfl) ?_
      refine EL_val (.bool (decide (0 ≤ n))) w24 rfl (r_move rfl) ?_
      refine EL_gite 12 rfl rfl rfl (.int .i64 n) rfl (fun g57 => r_move (by exact e26)) ?_
      refine EL_gite 12 rfl rfl rfl (.int .i64 (j : Int)) rfl (fun g58 => r_move (by exact e25)) ?_
      refine EL_gite 12 rfl rfl rfl (ptr b11 (0 + ((j : Int) : Int).toNat)) rfl (fun g59 => r_indexP (i := (j : Int)) (by exact e27) (cond_of g59 rfl) (by omega) (by omega) Try.underlying66 (by kernel_rfl)) ?_
      refine EL_gite 12 rfl rfl rfl (.int .i64 512) rfl (fun g60 => r_loadA (cond_of g60 rfl) (S28.arr 0 rfl) (u := (.int .i64 512)) (by rw [hj0]; rfl) Try.underlying3 rfl) ?_
      refine EL_gite 12 rfl rfl rfl (.int .i64 510) rfl (fun g61 => r_asn (by kernel_rfl) (r_sub (cond_of g61 rfl) rfl)) ?_
      refine EL_gite 12 rfl rfl rfl (.bool (decide (n ≤ 510))) rfl (fun g62 => r_leq (cond_of g62 rfl) (cond_of g62 rfl)) ?_
      refine EL_val (.bool ((decide (0 ≤ n)) && (decide (n ≤ 510)))) w24 rfl (r_and rfl rfl rfl) ?_
      refine EL_nil ?_
      refine thn_n ?_
      refine EC_cond (t := (decide (0 ≤ n)) && (decide (n ≤ 510))) rfl (fun h63 => ?_) (fun h63 => ?_)
      · have hc9 := h63
        simp at hc9
        refine EC_seq ?_
        refine EC_reg ?_
        refine EL_val (.int .i64 (j : Int)) w24 rfl (r_move (by exact e25)) ?_
        refine EL_val (ptr b11 (0 + ((j : Int) : Int).toNat)) w24 rfl (r_indexP (i := (j : Int)) (by exact e27) rfl (by omega) (by omega) Try.underlying66 (by kernel_rfl)) ?_
        refine EL_val (.int .i64 512) w24 rfl (r_loadA rfl (S28.arr 0 rfl) (u := (.int .i64 512)) (by rw [hj0]; rfl) Try.underlying3 rfl) ?_
        refine EL_val (.int .i64 512) w24 rfl (r_assign rfl) ?_
        refine EL_nil ?_
        refine thn_n ?_
        refine EC_ret ?_
        refine inB_r ?_
        refine thn_r ?_
        refine thn_r ?_
        refine inB_r ?_
        refine thn_r ?_
        refine fin1 Try.results13 (show _ = .int .i64 512 from rfl) ⟨_, rfl, ?_⟩
        have S64 := S28.dr0
        exact ⟨(by rw [size13_at (n := n) (j := 3) (z := 512) (by omega) (by omega) (by omega) rfl (by omega)]), S64⟩
      · have hc9 := h63
        simp at hc9
        refine EC_skip ?_
        refine inB_n ?_
        refine thn_n ?_
        refine EC_reg ?_
        refine EL_val (.int .i64 (j : Int)) w24 rfl (r_move (by exact e25)) ?_
        refine EL_int ((j : Int) + 1) rfl (r_addi rfl rfl (by omega)) ?_
        intro x65 hx65
        refine EL_val (.int .i64 x65) w24 rfl (r_assign rfl) ?_
        refine EL_nil ?_
        refine thn_n ?_
        refine ⟨_, ?_, j + 1, rfl, (Eq.trans (show _ = Value.int .i64 x65 from rfl) (congrArg _ (by omega))), (by exact e26), (by exact e27), by omega, by omega, S28⟩
        first | omega | (simp; omega)
    · refine EC_reg ?_
      refine EL_val (.int .i64 n) w24 rfl (r_move (by exact e26)) ?_
      refine EL_val (.bool (decide (0 ≤ n))) w24 rfl (r_geq rfl rfl) ?_
      refine EL_val (.bool (decide (0 ≤ n))) w24 rfl (r_move rfl) ?_
      refine EL_gite 12 rfl rfl rfl (.int .i64 n) rfl (fun g66 => r_move (by exact e26)) ?_
      refine EL_gite 12 rfl rfl rfl (.int .i64 (j : Int)) rfl (fun g67 => r_move (by exact e25)) ?_
      refine EL_gite 12 rfl rfl rfl (ptr b11 (0 + ((j : Int) : Int).toNat)) rfl (fun g68 => r_indexP (i := (j : Int)) (by exact e27) (cond_of g68 rfl) (by omega) (by omega) Try.underlying66 (by kernel_rfl)) ?_
      refine EL_gite 12 rfl rfl rfl (.int .i64 1024) rfl (fun g69 => r_loadA (cond_of g69 rfl) (S28.arr 0 rfl) (u := (.int .i64 1024)) (by rw [hj0]; rfl) Try.underlying3 rfl) ?_
      refine EL_gite 12 rfl rfl rfl (.int .i64 1022) rfl (fun g70 => r_asn (by kernel_rfl) (r_sub (cond_of g70 rfl) rfl)) ?_
      refine EL_gite 12 rfl rfl rfl (.bool (decide (n ≤ 1022))) rfl (fun g71 => r_leq (cond_of g71 rfl) (cond_of g71 rfl)) ?_
      refine EL_val (.bool ((decide (0 ≤ n)) && (decide (n ≤ 1022)))) w24 rfl (r_and rfl rfl rfl) ?_
      refine EL_nil ?_
      refine thn_n ?_
      refine EC_cond (t := (decide (0 ≤ n)) && (decide (n ≤ 1022))) rfl (fun h72 => ?_) (fun h72 => ?_)
      · have hc9 := h72
        simp at hc9
        refine EC_seq ?_
        refine EC_reg ?_
        refine EL_val (.int .i64 (j : Int)) w24 rfl (r_move (by exact e25)) ?_
        refine EL_val (ptr b11 (0 + ((j : Int) : Int).toNat)) w24 rfl (r_indexP (i := (j : Int)) (by exact e27) rfl (by omega) (by omega) Try.underlying66 (by kernel_rfl)) ?_
        refine EL_val (.int .i64 1024) w24 rfl (r_loadA rfl (S28.arr 0 rfl) (u := (.int .i64 1024)) (by rw [hj0]; rfl) Try.underlying3 rfl) ?_
        refine EL_val (.int .i64 1024) w24 rfl (r_assign rfl) ?_
        refine EL_nil ?_
        refine thn_n ?_
        refine EC_ret ?_
        refine inB_r ?_
        refine thn_r ?_
        refine thn_r ?_
        refine inB_r ?_
        refine thn_r ?_
        refine fin1 Try.results13 (show _ = .int .i64 1024 from rfl) ⟨_, rfl, ?_⟩
        have S73 := S28.dr0
        exact ⟨(by rw [size13_at (n := n) (j := 4) (z := 1024) (by omega) (by omega) (by omega) rfl (by omega)]), S73⟩
      · have hc9 := h72
        simp at hc9
        refine EC_skip ?_
        refine inB_n ?_
        refine thn_n ?_
        refine EC_reg ?_
        refine EL_val (.int .i64 (j : Int)) w24 rfl (r_move (by exact e25)) ?_
        refine EL_int ((j : Int) + 1) rfl (r_addi rfl rfl (by omega)) ?_
        intro x74 hx74
        refine EL_val (.int .i64 x74) w24 rfl (r_assign rfl) ?_
        refine EL_nil ?_
        refine thn_n ?_
        refine ⟨_, ?_, j + 1, rfl, (Eq.trans (show _ = Value.int .i64 x74 from rfl) (congrArg _ (by omega))), (by exact e26), (by exact e27), by omega, by omega, S28⟩
        first | omega | (simp; omega)
    · refine EC_reg ?_
      refine EL_val (.int .i64 n) w24 rfl (r_move (by exact e26)) ?_
      refine EL_val (.bool (decide (0 ≤ n))) w24 rfl (r_geq rfl rfl) ?_
      refine EL_val (.bool (decide (0 ≤ n))) w24 rfl (r_move rfl) ?_
      refine EL_gite 12 rfl rfl rfl (.int .i64 n) rfl (fun g75 => r_move (by exact e26)) ?_
      refine EL_gite 12 rfl rfl rfl (.int .i64 (j : Int)) rfl (fun g76 => r_move (by exact e25)) ?_
      refine EL_gite 12 rfl rfl rfl (ptr b11 (0 + ((j : Int) : Int).toNat)) rfl (fun g77 => r_indexP (i := (j : Int)) (by exact e27) (cond_of g77 rfl) (by omega) (by omega) Try.underlying66 (by kernel_rfl)) ?_
      refine EL_gite 12 rfl rfl rfl (.int .i64 2048) rfl (fun g78 => r_loadA (cond_of g78 rfl) (S28.arr 0 rfl) (u := (.int .i64 2048)) (by rw [hj0]; rfl) Try.underlying3 rfl) ?_
      refine EL_gite 12 rfl rfl rfl (.int .i64 2046) rfl (fun g79 => r_asn (by kernel_rfl) (r_sub (cond_of g79 rfl) rfl)) ?_
      refine EL_gite 12 rfl rfl rfl (.bool (decide (n ≤ 2046))) rfl (fun g80 => r_leq (cond_of g80 rfl) (cond_of g80 rfl)) ?_
      refine EL_val (.bool ((decide (0 ≤ n)) && (decide (n ≤ 2046)))) w24 rfl (r_and rfl rfl rfl) ?_
      refine EL_nil ?_
      refine thn_n ?_
      refine EC_cond (t := (decide (0 ≤ n)) && (decide (n ≤ 2046))) rfl (fun h81 => ?_) (fun h81 => ?_)
      · have hc9 := h81
        simp at hc9
        refine EC_seq ?_
        refine EC_reg ?_
        refine EL_val (.int .i64 (j : Int)) w24 rfl (r_move (by exact e25)) ?_
        refine EL_val (ptr b11 (0 + ((j : Int) : Int).toNat)) w24 rfl (r_indexP (i := (j : Int)) (by exact e27) rfl (by omega) (by omega) Try.underlying66 (by kernel_rfl)) ?_
        refine EL_val (.int .i64 2048) w24 rfl (r_loadA rfl (S28.arr 0 rfl) (u := (.int .i64 2048)) (by rw [hj0]; rfl) Try.underlying3 rfl) ?_
        refine EL_val (.int .i64 2048) w24 rfl (r_assign rfl) ?_
        refine EL_nil ?_
        refine thn_n ?_
        refine EC_ret ?_
        refine inB_r ?_
        refine thn_r ?_
        refine thn_r ?_
        refine inB_r ?_
        refine thn_r ?_
        refine fin1 Try.results13 (show _ = .int .i64 2048 from rfl) ⟨_, rfl, ?_⟩
        have S82 := S28.dr0
        exact ⟨(by rw [size13_at (n := n) (j := 5) (z := 2048) (by omega) (by omega) (by omega) rfl (by omega)]), S82⟩
      · have hc9 := h81
        simp at hc9
        refine EC_skip ?_
        refine inB_n ?_
        refine thn_n ?_
        refine EC_reg ?_
        refine EL_val (.int .i64 (j : Int)) w24 rfl (r_move (by exact e25)) ?_
        refine EL_int ((j : Int) + 1) rfl (r_addi rfl rfl (by omega)) ?_
        intro x83 hx83
        refine EL_val (.int .i64 x83) w24 rfl (r_assign rfl) ?_
        refine EL_nil ?_
        refine thn_n ?_
        refine ⟨_, ?_, j + 1, rfl, (Eq.trans (show _ = Value.int .i64 x83 from rfl) (congrArg _ (by omega))), (by exact e26), (by exact e27), by omega, by omega, S28⟩
        first | omega | (simp; omega)
  · refine EC_exit ?_
    refine thn_x ?_
    refine thn_x ?_
    refine inB_hit ?_
    refine thn_n ?_
    refine EC_seq ?_
    refine EC_reg ?_
    refine EL_val (.int .i64 0) w24 rfl (r_assign rfl) ?_
    refine EL_nil ?_
    refine thn_n ?_
    refine EC_ret ?_
    refine fin1 Try.results13 (show _ = .int .i64 0 from rfl) ⟨_, rfl, ?_⟩
    have S84 := S28.dr0
    exact ⟨(by rw [size13_end (by omega)]), S84⟩

set_option maxRecDepth 100000 in
set_option maxHeartbeats 4000000 in
theorem Same15_c (ca : List Value) (cb : List Value) (a : Record) (b : Record) (I : Gh) (R : List HP) (w : World) (S : Sat w I (R)) (ha : recR.r I ca a) (hb : recR.r I cb b) : Ret Try.prog 18 [.agg ca.toArray, .agg cb.toArray] w fun v w' => .bool (decide (a = b)) = v ∧ Sat w' I (R) := by
  obtain ⟨v15, rfl, r11, r12, r13, r14, ⟨o16, H17⟩⟩ := ha
  obtain ⟨v22, rfl, r18, r19, r20, r21, ⟨o23, H24⟩⟩ := hb
  refine ret_E Try.func18 rfl Try.ntmps18 (by simp) ?_
  refine EC_seq ?_
  refine EC_reg ?_
  refine EL_box [.int .i64 a.coll, .int .i64 a.epoch, .int .i64 a.writer, .int .i64 a.count, v15] rfl rfl rfl ?_
  intro b25 w26 k27 A28 B29 z30
  have S31 := S.newB B29 A28 k27
  refine EL_box [.int .i64 b.coll, .int .i64 b.epoch, .int .i64 b.writer, .int .i64 b.count, v22] rfl rfl rfl ?_
  intro b32 w33 k34 A35 B36 z37
  have S38 := S31.newB B36 A35 k34
  refine EL_val (.bool false) w33 rfl (r_assign rfl) ?_
  refine EL_nil ?_
  refine thn_n ?_
  refine EC_seq ?_
  refine EC_reg ?_
  refine EL_val (ptr b25 0) w33 rfl (r_fieldP (o := 0) (s := 1) rfl Try.underlying42 rfl (by kernel_rfl) (by decide) rfl) ?_
  refine EL_val (.int .i64 a.coll) w33 rfl (r_loadA rfl (S38.arr 1 rfl) (u := (.int .i64 a.coll)) rfl Try.underlying3 rfl) ?_
  refine EL_val (ptr b32 0) w33 rfl (r_fieldP (o := 0) (s := 1) rfl Try.underlying42 rfl (by kernel_rfl) (by decide) rfl) ?_
  refine EL_val (.int .i64 b.coll) w33 rfl (r_loadA rfl (S38.arr 0 rfl) (u := (.int .i64 b.coll)) rfl Try.underlying3 rfl) ?_
  refine EL_val (.bool (decide (a.coll = b.coll))) w33 rfl (r_eql rfl rfl) ?_
  refine EL_val (.bool (decide (a.coll = b.coll))) w33 rfl (r_move rfl) ?_
  refine EL_gite 10 rfl rfl rfl (ptr b25 1) rfl (fun g39 => r_fieldP (o := 0) (s := 1) rfl Try.underlying42 rfl (by kernel_rfl) (by decide) rfl) ?_
  refine EL_gite 10 rfl rfl rfl (.int .i64 a.epoch) rfl (fun g40 => r_loadA (cond_of g40 rfl) (S38.arr 1 rfl) (u := (.int .i64 a.epoch)) rfl Try.underlying3 rfl) ?_
  refine EL_gite 10 rfl rfl rfl (ptr b32 1) rfl (fun g41 => r_fieldP (o := 0) (s := 1) rfl Try.underlying42 rfl (by kernel_rfl) (by decide) rfl) ?_
  refine EL_gite 10 rfl rfl rfl (.int .i64 b.epoch) rfl (fun g42 => r_loadA (cond_of g42 rfl) (S38.arr 0 rfl) (u := (.int .i64 b.epoch)) rfl Try.underlying3 rfl) ?_
  refine EL_gite 10 rfl rfl rfl (.bool (decide (a.epoch = b.epoch))) rfl (fun g43 => r_eql (cond_of g43 rfl) (cond_of g43 rfl)) ?_
  refine EL_val (.bool ((decide (a.coll = b.coll)) && (decide (a.epoch = b.epoch)))) w33 rfl (r_and rfl rfl rfl) ?_
  refine EL_val (.bool ((decide (a.coll = b.coll)) && (decide (a.epoch = b.epoch)))) w33 rfl (r_move rfl) ?_
  refine EL_gite 17 rfl rfl rfl (ptr b25 2) rfl (fun g44 => r_fieldP (o := 0) (s := 1) rfl Try.underlying42 rfl (by kernel_rfl) (by decide) rfl) ?_
  refine EL_gite 17 rfl rfl rfl (.int .i64 a.writer) rfl (fun g45 => r_loadA (cond_of g45 rfl) (S38.arr 1 rfl) (u := (.int .i64 a.writer)) rfl Try.underlying3 rfl) ?_
  refine EL_gite 17 rfl rfl rfl (ptr b32 2) rfl (fun g46 => r_fieldP (o := 0) (s := 1) rfl Try.underlying42 rfl (by kernel_rfl) (by decide) rfl) ?_
  refine EL_gite 17 rfl rfl rfl (.int .i64 b.writer) rfl (fun g47 => r_loadA (cond_of g47 rfl) (S38.arr 0 rfl) (u := (.int .i64 b.writer)) rfl Try.underlying3 rfl) ?_
  refine EL_gite 17 rfl rfl rfl (.bool (decide (a.writer = b.writer))) rfl (fun g48 => r_eql (cond_of g48 rfl) (cond_of g48 rfl)) ?_
  refine EL_val (.bool (((decide (a.coll = b.coll)) && (decide (a.epoch = b.epoch))) && (decide (a.writer = b.writer)))) w33 rfl (r_and rfl rfl rfl) ?_
  refine EL_val (.bool (((decide (a.coll = b.coll)) && (decide (a.epoch = b.epoch))) && (decide (a.writer = b.writer)))) w33 rfl (r_move rfl) ?_
  refine EL_gite 24 rfl rfl rfl (ptr b25 3) rfl (fun g49 => r_fieldP (o := 0) (s := 1) rfl Try.underlying42 rfl (by kernel_rfl) (by decide) rfl) ?_
  refine EL_gite 24 rfl rfl rfl (.int .i64 a.count) rfl (fun g50 => r_loadA (cond_of g50 rfl) (S38.arr 1 rfl) (u := (.int .i64 a.count)) rfl Try.underlying3 rfl) ?_
  refine EL_gite 24 rfl rfl rfl (ptr b32 3) rfl (fun g51 => r_fieldP (o := 0) (s := 1) rfl Try.underlying42 rfl (by kernel_rfl) (by decide) rfl) ?_
  refine EL_gite 24 rfl rfl rfl (.int .i64 b.count) rfl (fun g52 => r_loadA (cond_of g52 rfl) (S38.arr 0 rfl) (u := (.int .i64 b.count)) rfl Try.underlying3 rfl) ?_
  refine EL_gite 24 rfl rfl rfl (.bool (decide (a.count = b.count))) rfl (fun g53 => r_eql (cond_of g53 rfl) (cond_of g53 rfl)) ?_
  refine EL_val (.bool ((((decide (a.coll = b.coll)) && (decide (a.epoch = b.epoch))) && (decide (a.writer = b.writer))) && (decide (a.count = b.count)))) w33 rfl (r_and rfl rfl rfl) ?_
  refine EL_val (.bool ((((decide (a.coll = b.coll)) && (decide (a.epoch = b.epoch))) && (decide (a.writer = b.writer))) && (decide (a.count = b.count)))) w33 rfl (r_move rfl) ?_
  refine EL_gite 31 rfl rfl rfl (ptr b25 4) rfl (fun g54 => r_fieldP (o := 0) (s := 1) rfl Try.underlying42 rfl (by kernel_rfl) (by decide) rfl) ?_
  refine EL_gite 31 rfl rfl rfl v15 rfl (fun g55 => r_loadA (cond_of g55 rfl) (S38.arr 1 rfl) (u := v15) rfl Try.underlying22 rfl) ?_
  refine EL_gite 31 rfl rfl rfl (.string (str a.box)) rfl (fun g56 => r_str (cond_of g56 rfl) (H17 _ S38.le) Try.underlying22 Try.underlying5 Try.underlying9) ?_
  refine EL_gite 31 rfl rfl rfl (ptr b32 4) rfl (fun g57 => r_fieldP (o := 0) (s := 1) rfl Try.underlying42 rfl (by kernel_rfl) (by decide) rfl) ?_
  refine EL_gite 31 rfl rfl rfl v22 rfl (fun g58 => r_loadA (cond_of g58 rfl) (S38.arr 0 rfl) (u := v22) rfl Try.underlying22 rfl) ?_
  refine EL_gite 31 rfl rfl rfl (.string (str b.box)) rfl (fun g59 => r_str (cond_of g59 rfl) (H24 _ S38.le) Try.underlying22 Try.underlying5 Try.underlying9) ?_
  refine EL_gite 31 rfl rfl rfl (.bool (decide (a.box = b.box))) rfl (fun g60 => r_eqls (cond_of g60 rfl) (cond_of g60 rfl)) ?_
  refine EL_val (.bool (((((decide (a.coll = b.coll)) && (decide (a.epoch = b.epoch))) && (decide (a.writer = b.writer))) && (decide (a.count = b.count))) && (decide (a.box = b.box)))) w33 rfl (r_and rfl rfl rfl) ?_
  refine EL_val (.bool (((((decide (a.coll = b.coll)) && (decide (a.epoch = b.epoch))) && (decide (a.writer = b.writer))) && (decide (a.count = b.count))) && (decide (a.box = b.box)))) w33 rfl (r_assign rfl) ?_
  refine EL_nil ?_
  refine thn_n ?_
  refine EC_ret ?_
  refine fin1 Try.results18 (show _ = .bool (((((decide (a.coll = b.coll)) && (decide (a.epoch = b.epoch))) && (decide (a.writer = b.writer))) && (decide (a.count = b.count))) && (decide (a.box = b.box))) from rfl) ⟨_, rfl, ?_⟩
  have S61 := S38.dr0
  have S62 := S61.dr0
  exact ⟨(congrArg Value.bool (rec_eqb a b).symm), S62⟩

end Go.Proofs.Ytoajodjcmeijgaa
