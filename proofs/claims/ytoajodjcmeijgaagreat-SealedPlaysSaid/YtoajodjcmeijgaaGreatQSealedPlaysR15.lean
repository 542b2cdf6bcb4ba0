import Derived.Test.YtoajodjcmeijgaaGreatQSealedPlaysRef15
import Derived.Test.YtoajodjcmeijgaaGreatQSealedPlaysR08
import Derived.Test.YtoajodjcmeijgaaGreatQSealedPlaysSea
set_option linter.unusedVariables false
set_option linter.unusedSimpArgs false
namespace Go.Proofs.YtoajodjcmeijgaaGreat
open Go.RowKit Go.Ecal

set_option maxRecDepth 100000 in
set_option maxHeartbeats 4000000 in
theorem Size13_c (n : Int) (I : Gh) (R : List HP) (w : World) (S : Sat w I (R)) (hn : -9223372036854775808 ≤ n ∧ n ≤ 9223372036854775807) : Ret Tryz.prog 39 [.int .i64 n] w fun v w' => .int .i64 (bsize n) = v ∧ Sat w' I (R) := by
  refine ret_E Tryz.func39 rfl Tryz.ntmps39 (by simp) ?_
  refine EC_seq (EC_reg (vA (.int .i64 0) rfl rfl (EL_nil (thn_n (EC_seq ?_)))))
  refine EC_reg (vl (.agg ([.int .i64 64, .int .i64 128, .int .i64 256, .int .i64 512, .int .i64 1024, .int .i64 2048]).toArray) rfl (r_buildA (z := .agg #[.int .i64 0, .int .i64 0, .int .i64 0, .int .i64 0, .int .i64 0, .int .i64 0]) ([.int .i64 64, .int .i64 128, .int .i64 256, .int .i64 512, .int .i64 1024, .int .i64 2048]).toArray U118 (by kernel_rfl) (by kernel_rfl) (by kernel_rfl)) ?_)
  refine EL_alloc (z := .agg #[.int .i64 0, .int .i64 0, .int .i64 0, .int .i64 0, .int .i64 0, .int .i64 0]) [.int .i64 0, .int .i64 0, .int .i64 0, .int .i64 0, .int .i64 0, .int .i64 0] rfl (by kernel_rfl) rfl ?_
  intro b11 w12 k13 A14 B15 z16
  have S17 := S.newB B15 A14 k13
  refine sA [.int .i64 64, .int .i64 128, .int .i64 256, .int .i64 512, .int .i64 1024, .int .i64 2048] rfl rfl (S17.arr 0 rfl) rfl (by kernel_rfl) (by decide) ?_
  intro w18 A19 K20 z21
  have S22 := S17.wr0 (ds := [.int .i64 64, .int .i64 128, .int .i64 256, .int .i64 512, .int .i64 1024, .int .i64 2048]) K20 A19
  refine EL_nil (thn_n (EC_seq (EC_seq (EC_reg (vA (.int .i64 0) rfl rfl ?_)))))
  refine EL_nil (thn_n (EC_block ?_))
  refine EC_loop (fun m' E' w' => ∃ j : Nat, m' = 6 - j ∧ E' 4 = .int .i64 (j : Int) ∧ E' 0 = .int .i64 n ∧ E' 3 = ptr b11 ∧ (j ≤ 6) ∧ (n < 0 ∨ ((0 < j → 62 < n) ∧ (1 < j → 126 < n) ∧ (2 < j → 254 < n) ∧ (3 < j → 510 < n) ∧ (4 < j → 1022 < n) ∧ (5 < j → 2046 < n))) ∧ Sat w' I (Blk b11 118 [.int .i64 64, .int .i64 128, .int .i64 256, .int .i64 512, .int .i64 1024, .int .i64 2048] :: R)) _ ⟨0, rfl, rfl, rfl, rfl, by omega, by omega, S22⟩ ?_
  rintro _ E23 w24 ⟨j, rfl, e25, e26, e27, hj, hN, S28⟩
  refine EC_seq (EC_seq (EC_reg (vM (.int .i64 (j : Int)) rfl e25 (vl (.bool (decide ((j : Int) < 6))) rfl (r_lss rfl rfl) (EL_nil ?_)))))
  refine thn_n ?_
  refine EC_if (p := (j : Int) < 6) rfl (fun h29 => ?_) (fun h29 => ?_)
  refine EC_skip (thn_n (EC_seq (EC_block (EC_seq ?_))))
  rcases (by omega : j = 0 ∨ j = 1 ∨ j = 2 ∨ j = 3 ∨ j = 4 ∨ j = 5) with hj0 | hj0 | hj0 | hj0 | hj0 | hj0
  refine EC_reg (vM (.int .i64 n) rfl e26 (vl (.bool (decide (0 ≤ n))) rfl (r_geq rfl rfl) (vM (.bool (decide (0 ≤ n))) rfl rfl (EL_gite 12 rfl rfl rfl (.int .i64 n) rfl (fun g30 => r_move (by exact e26)) (EL_gite 12 rfl rfl rfl (.int .i64 (j : Int)) rfl (fun g31 => r_move (by exact e25)) ?_)))))
  refine EL_gite 12 rfl rfl rfl (ptr b11 (0 + ((j : Int) : Int).toNat)) rfl (fun g32 => r_indexP (i := (j : Int)) (by exact e27) (cond_of g32 rfl) (by omega) (by omega) U118 (by kernel_rfl)) (EL_gite 12 rfl rfl rfl (.int .i64 64) rfl (fun g33 => r_loadA (cond_of g33 rfl) (S28.arr 0 rfl) (u := (.int .i64 64)) (by rw [hj0]; rfl) U3 rfl) (EL_gite 12 rfl rfl rfl (.int .i64 62) rfl (fun g34 => r_asn (by kernel_rfl) (r_sub (cond_of g34 rfl) rfl)) (EL_gite 12 rfl rfl rfl (.bool (decide (n ≤ 62))) rfl (fun g35 => r_leq (cond_of g35 rfl) (cond_of g35 rfl)) (vl (.bool ((decide (0 ≤ n)) && (decide (n ≤ 62)))) rfl (r_and rfl rfl rfl) (EL_nil ?_)))))
  refine thn_n ?_
  refine EC_cond (t := (decide (0 ≤ n)) && (decide (n ≤ 62))) rfl (fun h36 => ?_) (fun h36 => ?_)
  have hc9 := h36
  simp at hc9
  refine EC_seq (EC_reg (vM (.int .i64 (j : Int)) rfl e25 (vl (ptr b11 (0 + ((j : Int) : Int).toNat)) rfl (r_indexP (i := (j : Int)) (by exact e27) rfl (by omega) (by omega) U118 (by kernel_rfl)) (vl (.int .i64 64) rfl (r_loadA rfl (S28.arr 0 rfl) (u := (.int .i64 64)) (by rw [hj0]; rfl) U3 rfl) (vA (.int .i64 64) rfl rfl ?_)))))
  refine EL_nil (thn_n (EC_ret (inB_r (thn_r (thn_r ?_)))))
  refine inB_r (thn_r ?_)
  refine fin1 Tryz.results39 (show _ = .int .i64 64 from rfl) ⟨_, rfl, ?_⟩
  have S37 := S28.dr0
  exact ⟨(by rw [size13_at (n := n) (j := 0) (z := 64) (by omega) (by omega) (by omega) rfl (by omega)]), S37⟩
  have hc9 := h36
  simp at hc9
  refine EC_skip (inB_n (thn_n (EC_reg (vM (.int .i64 (j : Int)) rfl e25 ?_))))
  refine EL_int ((j : Int) + 1) rfl (r_addi rfl rfl (by omega)) ?_
  intro x38 hx38
  refine vA (.int .i64 x38) rfl rfl (EL_nil (thn_n ?_))
  refine ⟨_, ?_, j + 1, rfl, (Eq.trans (show _ = Value.int .i64 x38 from rfl) (congrArg _ (by omega))), (by exact e26), (by exact e27), by omega, by omega, S28⟩
  first | omega | (simp; omega)
  refine EC_reg (vM (.int .i64 n) rfl e26 (vl (.bool (decide (0 ≤ n))) rfl (r_geq rfl rfl) (vM (.bool (decide (0 ≤ n))) rfl rfl (EL_gite 12 rfl rfl rfl (.int .i64 n) rfl (fun g39 => r_move (by exact e26)) (EL_gite 12 rfl rfl rfl (.int .i64 (j : Int)) rfl (fun g40 => r_move (by exact e25)) ?_)))))
  refine EL_gite 12 rfl rfl rfl (ptr b11 (0 + ((j : Int) : Int).toNat)) rfl (fun g41 => r_indexP (i := (j : Int)) (by exact e27) (cond_of g41 rfl) (by omega) (by omega) U118 (by kernel_rfl)) (EL_gite 12 rfl rfl rfl (.int .i64 128) rfl (fun g42 => r_loadA (cond_of g42 rfl) (S28.arr 0 rfl) (u := (.int .i64 128)) (by rw [hj0]; rfl) U3 rfl) (EL_gite 12 rfl rfl rfl (.int .i64 126) rfl (fun g43 => r_asn (by kernel_rfl) (r_sub (cond_of g43 rfl) rfl)) (EL_gite 12 rfl rfl rfl (.bool (decide (n ≤ 126))) rfl (fun g44 => r_leq (cond_of g44 rfl) (cond_of g44 rfl)) (vl (.bool ((decide (0 ≤ n)) && (decide (n ≤ 126)))) rfl (r_and rfl rfl rfl) (EL_nil ?_)))))
  refine thn_n ?_
  refine EC_cond (t := (decide (0 ≤ n)) && (decide (n ≤ 126))) rfl (fun h45 => ?_) (fun h45 => ?_)
  have hc9 := h45
  simp at hc9
  refine EC_seq (EC_reg (vM (.int .i64 (j : Int)) rfl e25 (vl (ptr b11 (0 + ((j : Int) : Int).toNat)) rfl (r_indexP (i := (j : Int)) (by exact e27) rfl (by omega) (by omega) U118 (by kernel_rfl)) (vl (.int .i64 128) rfl (r_loadA rfl (S28.arr 0 rfl) (u := (.int .i64 128)) (by rw [hj0]; rfl) U3 rfl) (vA (.int .i64 128) rfl rfl ?_)))))
  refine EL_nil (thn_n (EC_ret (inB_r (thn_r (thn_r ?_)))))
  refine inB_r (thn_r ?_)
  refine fin1 Tryz.results39 (show _ = .int .i64 128 from rfl) ⟨_, rfl, ?_⟩
  have S46 := S28.dr0
  exact ⟨(by rw [size13_at (n := n) (j := 1) (z := 128) (by omega) (by omega) (by omega) rfl (by omega)]), S46⟩
  have hc9 := h45
  simp at hc9
  refine EC_skip (inB_n (thn_n (EC_reg (vM (.int .i64 (j : Int)) rfl e25 ?_))))
  refine EL_int ((j : Int) + 1) rfl (r_addi rfl rfl (by omega)) ?_
  intro x47 hx47
  refine vA (.int .i64 x47) rfl rfl (EL_nil (thn_n ?_))
  refine ⟨_, ?_, j + 1, rfl, (Eq.trans (show _ = Value.int .i64 x47 from rfl) (congrArg _ (by omega))), (by exact e26), (by exact e27), by omega, by omega, S28⟩
  first | omega | (simp; omega)
  refine EC_reg (vM (.int .i64 n) rfl e26 (vl (.bool (decide (0 ≤ n))) rfl (r_geq rfl rfl) (vM (.bool (decide (0 ≤ n))) rfl rfl (EL_gite 12 rfl rfl rfl (.int .i64 n) rfl (fun g48 => r_move (by exact e26)) (EL_gite 12 rfl rfl rfl (.int .i64 (j : Int)) rfl (fun g49 => r_move (by exact e25)) ?_)))))
  refine EL_gite 12 rfl rfl rfl (ptr b11 (0 + ((j : Int) : Int).toNat)) rfl (fun g50 => r_indexP (i := (j : Int)) (by exact e27) (cond_of g50 rfl) (by omega) (by omega) U118 (by kernel_rfl)) (EL_gite 12 rfl rfl rfl (.int .i64 256) rfl (fun g51 => r_loadA (cond_of g51 rfl) (S28.arr 0 rfl) (u := (.int .i64 256)) (by rw [hj0]; rfl) U3 rfl) (EL_gite 12 rfl rfl rfl (.int .i64 254) rfl (fun g52 => r_asn (by kernel_rfl) (r_sub (cond_of g52 rfl) rfl)) (EL_gite 12 rfl rfl rfl (.bool (decide (n ≤ 254))) rfl (fun g53 => r_leq (cond_of g53 rfl) (cond_of g53 rfl)) (vl (.bool ((decide (0 ≤ n)) && (decide (n ≤ 254)))) rfl (r_and rfl rfl rfl) (EL_nil ?_)))))
  refine thn_n ?_
  refine EC_cond (t := (decide (0 ≤ n)) && (decide (n ≤ 254))) rfl (fun h54 => ?_) (fun h54 => ?_)
  have hc9 := h54
  simp at hc9
  refine EC_seq (EC_reg (vM (.int .i64 (j : Int)) rfl e25 (vl (ptr b11 (0 + ((j : Int) : Int).toNat)) rfl (r_indexP (i := (j : Int)) (by exact e27) rfl (by omega) (by omega) U118 (by kernel_rfl)) (vl (.int .i64 256) rfl (r_loadA rfl (S28.arr 0 rfl) (u := (.int .i64 256)) (by rw [hj0]; rfl) U3 rfl) (vA (.int .i64 256) rfl rfl ?_)))))
  refine EL_nil (thn_n (EC_ret (inB_r (thn_r (thn_r ?_)))))
  refine inB_r (thn_r ?_)
  refine fin1 Tryz.results39 (show _ = .int .i64 256 from rfl) ⟨_, rfl, ?_⟩
  have S55 := S28.dr0
  exact ⟨(by rw [size13_at (n := n) (j := 2) (z := 256) (by omega) (by omega) (by omega) rfl (by omega)]), S55⟩
  have hc9 := h54
  simp at hc9
  refine EC_skip (inB_n (thn_n (EC_reg (vM (.int .i64 (j : Int)) rfl e25 ?_))))
  refine EL_int ((j : Int) + 1) rfl (r_addi rfl rfl (by omega)) ?_
  intro x56 hx56
  refine vA (.int .i64 x56) rfl rfl (EL_nil (thn_n ?_))
  refine ⟨_, ?_, j + 1, rfl, (Eq.trans (show _ = Value.int .i64 x56 from rfl) (congrArg _ (by omega))), (by exact e26), (by exact e27), by omega, by omega, S28⟩
  first | omega | (simp; omega)
  refine EC_reg (vM (.int .i64 n) rfl e26 (vl (.bool (decide (0 ≤ n))) rfl (r_geq rfl rfl) (vM (.bool (decide (0 ≤ n))) rfl rfl (EL_gite 12 rfl rfl rfl (.int .i64 n) rfl (fun g57 => r_move (by exact e26)) (EL_gite 12 rfl rfl rfl (.int .i64 (j : Int)) rfl (fun g58 => r_move (by exact e25)) ?_)))))
  refine EL_gite 12 rfl rfl rfl (ptr b11 (0 + ((j : Int) : Int).toNat)) rfl (fun g59 => r_indexP (i := (j : Int)) (by exact e27) (cond_of g59 rfl) (by omega) (by omega) U118 (by kernel_rfl)) (EL_gite 12 rfl rfl rfl (.int .i64 512) rfl (fun g60 => r_loadA (cond_of g60 rfl) (S28.arr 0 rfl) (u := (.int .i64 512)) (by rw [hj0]; rfl) U3 rfl) (EL_gite 12 rfl rfl rfl (.int .i64 510) rfl (fun g61 => r_asn (by kernel_rfl) (r_sub (cond_of g61 rfl) rfl)) (EL_gite 12 rfl rfl rfl (.bool (decide (n ≤ 510))) rfl (fun g62 => r_leq (cond_of g62 rfl) (cond_of g62 rfl)) (vl (.bool ((decide (0 ≤ n)) && (decide (n ≤ 510)))) rfl (r_and rfl rfl rfl) (EL_nil ?_)))))
  refine thn_n ?_
  refine EC_cond (t := (decide (0 ≤ n)) && (decide (n ≤ 510))) rfl (fun h63 => ?_) (fun h63 => ?_)
  have hc9 := h63
  simp at hc9
  refine EC_seq (EC_reg (vM (.int .i64 (j : Int)) rfl e25 (vl (ptr b11 (0 + ((j : Int) : Int).toNat)) rfl (r_indexP (i := (j : Int)) (by exact e27) rfl (by omega) (by omega) U118 (by kernel_rfl)) (vl (.int .i64 512) rfl (r_loadA rfl (S28.arr 0 rfl) (u := (.int .i64 512)) (by rw [hj0]; rfl) U3 rfl) (vA (.int .i64 512) rfl rfl ?_)))))
  refine EL_nil (thn_n (EC_ret (inB_r (thn_r (thn_r ?_)))))
  refine inB_r (thn_r ?_)
  refine fin1 Tryz.results39 (show _ = .int .i64 512 from rfl) ⟨_, rfl, ?_⟩
  have S64 := S28.dr0
  exact ⟨(by rw [size13_at (n := n) (j := 3) (z := 512) (by omega) (by omega) (by omega) rfl (by omega)]), S64⟩
  have hc9 := h63
  simp at hc9
  refine EC_skip (inB_n (thn_n (EC_reg (vM (.int .i64 (j : Int)) rfl e25 ?_))))
  refine EL_int ((j : Int) + 1) rfl (r_addi rfl rfl (by omega)) ?_
  intro x65 hx65
  refine vA (.int .i64 x65) rfl rfl (EL_nil (thn_n ?_))
  refine ⟨_, ?_, j + 1, rfl, (Eq.trans (show _ = Value.int .i64 x65 from rfl) (congrArg _ (by omega))), (by exact e26), (by exact e27), by omega, by omega, S28⟩
  first | omega | (simp; omega)
  refine EC_reg (vM (.int .i64 n) rfl e26 (vl (.bool (decide (0 ≤ n))) rfl (r_geq rfl rfl) (vM (.bool (decide (0 ≤ n))) rfl rfl (EL_gite 12 rfl rfl rfl (.int .i64 n) rfl (fun g66 => r_move (by exact e26)) (EL_gite 12 rfl rfl rfl (.int .i64 (j : Int)) rfl (fun g67 => r_move (by exact e25)) ?_)))))
  refine EL_gite 12 rfl rfl rfl (ptr b11 (0 + ((j : Int) : Int).toNat)) rfl (fun g68 => r_indexP (i := (j : Int)) (by exact e27) (cond_of g68 rfl) (by omega) (by omega) U118 (by kernel_rfl)) (EL_gite 12 rfl rfl rfl (.int .i64 1024) rfl (fun g69 => r_loadA (cond_of g69 rfl) (S28.arr 0 rfl) (u := (.int .i64 1024)) (by rw [hj0]; rfl) U3 rfl) (EL_gite 12 rfl rfl rfl (.int .i64 1022) rfl (fun g70 => r_asn (by kernel_rfl) (r_sub (cond_of g70 rfl) rfl)) (EL_gite 12 rfl rfl rfl (.bool (decide (n ≤ 1022))) rfl (fun g71 => r_leq (cond_of g71 rfl) (cond_of g71 rfl)) (vl (.bool ((decide (0 ≤ n)) && (decide (n ≤ 1022)))) rfl (r_and rfl rfl rfl) (EL_nil ?_)))))
  refine thn_n ?_
  refine EC_cond (t := (decide (0 ≤ n)) && (decide (n ≤ 1022))) rfl (fun h72 => ?_) (fun h72 => ?_)
  have hc9 := h72
  simp at hc9
  refine EC_seq (EC_reg (vM (.int .i64 (j : Int)) rfl e25 (vl (ptr b11 (0 + ((j : Int) : Int).toNat)) rfl (r_indexP (i := (j : Int)) (by exact e27) rfl (by omega) (by omega) U118 (by kernel_rfl)) (vl (.int .i64 1024) rfl (r_loadA rfl (S28.arr 0 rfl) (u := (.int .i64 1024)) (by rw [hj0]; rfl) U3 rfl) (vA (.int .i64 1024) rfl rfl ?_)))))
  refine EL_nil (thn_n (EC_ret (inB_r (thn_r (thn_r ?_)))))
  refine inB_r (thn_r ?_)
  refine fin1 Tryz.results39 (show _ = .int .i64 1024 from rfl) ⟨_, rfl, ?_⟩
  have S73 := S28.dr0
  exact ⟨(by rw [size13_at (n := n) (j := 4) (z := 1024) (by omega) (by omega) (by omega) rfl (by omega)]), S73⟩
  have hc9 := h72
  simp at hc9
  refine EC_skip (inB_n (thn_n (EC_reg (vM (.int .i64 (j : Int)) rfl e25 ?_))))
  refine EL_int ((j : Int) + 1) rfl (r_addi rfl rfl (by omega)) ?_
  intro x74 hx74
  refine vA (.int .i64 x74) rfl rfl (EL_nil (thn_n ?_))
  refine ⟨_, ?_, j + 1, rfl, (Eq.trans (show _ = Value.int .i64 x74 from rfl) (congrArg _ (by omega))), (by exact e26), (by exact e27), by omega, by omega, S28⟩
  first | omega | (simp; omega)
  refine EC_reg (vM (.int .i64 n) rfl e26 (vl (.bool (decide (0 ≤ n))) rfl (r_geq rfl rfl) (vM (.bool (decide (0 ≤ n))) rfl rfl (EL_gite 12 rfl rfl rfl (.int .i64 n) rfl (fun g75 => r_move (by exact e26)) (EL_gite 12 rfl rfl rfl (.int .i64 (j : Int)) rfl (fun g76 => r_move (by exact e25)) ?_)))))
  refine EL_gite 12 rfl rfl rfl (ptr b11 (0 + ((j : Int) : Int).toNat)) rfl (fun g77 => r_indexP (i := (j : Int)) (by exact e27) (cond_of g77 rfl) (by omega) (by omega) U118 (by kernel_rfl)) (EL_gite 12 rfl rfl rfl (.int .i64 2048) rfl (fun g78 => r_loadA (cond_of g78 rfl) (S28.arr 0 rfl) (u := (.int .i64 2048)) (by rw [hj0]; rfl) U3 rfl) (EL_gite 12 rfl rfl rfl (.int .i64 2046) rfl (fun g79 => r_asn (by kernel_rfl) (r_sub (cond_of g79 rfl) rfl)) (EL_gite 12 rfl rfl rfl (.bool (decide (n ≤ 2046))) rfl (fun g80 => r_leq (cond_of g80 rfl) (cond_of g80 rfl)) (vl (.bool ((decide (0 ≤ n)) && (decide (n ≤ 2046)))) rfl (r_and rfl rfl rfl) (EL_nil ?_)))))
  refine thn_n ?_
  refine EC_cond (t := (decide (0 ≤ n)) && (decide (n ≤ 2046))) rfl (fun h81 => ?_) (fun h81 => ?_)
  have hc9 := h81
  simp at hc9
  refine EC_seq (EC_reg (vM (.int .i64 (j : Int)) rfl e25 (vl (ptr b11 (0 + ((j : Int) : Int).toNat)) rfl (r_indexP (i := (j : Int)) (by exact e27) rfl (by omega) (by omega) U118 (by kernel_rfl)) (vl (.int .i64 2048) rfl (r_loadA rfl (S28.arr 0 rfl) (u := (.int .i64 2048)) (by rw [hj0]; rfl) U3 rfl) (vA (.int .i64 2048) rfl rfl ?_)))))
  refine EL_nil (thn_n (EC_ret (inB_r (thn_r (thn_r ?_)))))
  refine inB_r (thn_r ?_)
  refine fin1 Tryz.results39 (show _ = .int .i64 2048 from rfl) ⟨_, rfl, ?_⟩
  have S82 := S28.dr0
  exact ⟨(by rw [size13_at (n := n) (j := 5) (z := 2048) (by omega) (by omega) (by omega) rfl (by omega)]), S82⟩
  have hc9 := h81
  simp at hc9
  refine EC_skip (inB_n (thn_n (EC_reg (vM (.int .i64 (j : Int)) rfl e25 ?_))))
  refine EL_int ((j : Int) + 1) rfl (r_addi rfl rfl (by omega)) ?_
  intro x83 hx83
  refine vA (.int .i64 x83) rfl rfl (EL_nil (thn_n ?_))
  refine ⟨_, ?_, j + 1, rfl, (Eq.trans (show _ = Value.int .i64 x83 from rfl) (congrArg _ (by omega))), (by exact e26), (by exact e27), by omega, by omega, S28⟩
  first | omega | (simp; omega)
  refine EC_exit (thn_x (thn_x (inB_hit (thn_n (EC_seq ?_)))))
  refine EC_reg (vA (.int .i64 0) rfl rfl (EL_nil (thn_n (EC_ret ?_))))
  refine fin1 Tryz.results39 (show _ = .int .i64 0 from rfl) ⟨_, rfl, ?_⟩
  have S84 := S28.dr0
  exact ⟨(by rw [size13_end (by omega)]), S84⟩

set_option maxRecDepth 100000 in
set_option maxHeartbeats 4000000 in
theorem Pad13_c (v0 : Value) (l : List UInt8) (I : Gh) (R : List HP) (w : World) (S : Sat w I (R)) (Q0 : RoB I v0 l) (hl : l.length ≤ 2046) : Ret Tryz.prog 42 [v0] w fun v w' => ∃ v1 : Value, v1 = v ∧ Sat w' I (OwnB v1 (bpad l) :: R) := by
  have lq0 := RoB.le Q0 S.le
  refine ret_E Tryz.func42 rfl Tryz.ntmps42 (by simp) ?_
  refine EC_seq (EC_reg (vA (.slice none 0 0) rfl rfl (EL_nil (thn_n (EC_seq ?_)))))
  refine EC_reg (vM v0 rfl rfl (vl (.int .i64 (l.length : Int)) rfl (lenB (r_len rfl (Q0 _ S.le) U22)) ?_))
  refine EL_int ((l.length : Int) / 256) rfl (r_quoi rfl rfl (by omega) (by omega)) ?_
  intro x11 hx11
  refine vl (.int .u8 (x11 % 256)) rfl (r_convb 3 5 rfl U3 U5) (vM v0 rfl rfl (vl (.int .i64 (l.length : Int)) rfl (lenB (r_len rfl (Q0 _ S.le) U22)) ?_))
  refine EL_int ((l.length : Int) % 256) rfl (r_remi rfl rfl (by omega) (by omega)) ?_
  intro x12 hx12
  refine vl (.int .u8 (x12 % 256)) rfl (r_convb 3 5 rfl U3 U5) ?_
  refine EL_lit w.heap.size #[.int .u8 (x11 % 256), .int .u8 (x12 % 256)] elB rfl (by decide) rfl (Nat.le_refl _) (by kernel_rfl) ?_
  intro v13 w14 O15 B16 k17 z18
  have S19 : Sat w14 I (OwnB v13 [bof x11, bof x12] :: R) := S.newO B16 (own_eq (l := [bof x11, bof x12]) O15 (by simp [bof_val, byt]))
  refine vM v0 rfl rfl ?_
  refine EL_append (v := v13) (xs := [bof x11, bof x12].map byt) (ys := l.map byt) 0 elB rfl rfl rfl (own_len (S19.own 0 rfl)) (Q0 _ S19.le) (byt_one _) (by first | (simp only [List.length_map, List.length_nil, List.length_append]; omega) | (simp; done) | (simp; omega)) (by decide) (Nat.zero_le _) ?_
  intro v20 w21 O22 G23 A24
  have S25 := S19.gb0 G23 (own_app O22) A24
  refine vA v20 rfl rfl (EL_nil (thn_n (EC_seq (EC_block ?_))))
  have q27 : [bof x11, bof x12] ++ l = padPre l 0 := by simp [padPre, be2, bof_mod, hx11, hx12]
  have S26 := S25.ab0 q27
  have hrm := pad_room hl
  refine EC_loop (fun m' E' w' => ∃ j : Nat, ∃ qv : Value, m' = (bsize (l.length : Int)).toNat - j ∧ E' 3 = qv ∧ E' 0 = v0 ∧ E' 2 = .slice none 0 0 ∧ (2 + l.length + j ≤ bsize (l.length : Int)) ∧ Sat w' I (OwnB qv (padPre l j) :: R)) _ ⟨0, v20, rfl, rfl, rfl, rfl, by omega, S26⟩ ?_
  rintro _ E28 w29 ⟨j, qv, rfl, e30, e31, e32, hj, S33⟩
  refine EC_seq (EC_seq ?_)
  have hpl := pre_len l j
  refine EC_reg (vM qv rfl e30 (vl (.int .i64 ((padPre l j).length : Int)) rfl (lenB (r_len rfl (own_row (S33.own 0 rfl)) U22)) (vM v0 rfl e31 (vl (.int .i64 (l.length : Int)) rfl (lenB (r_len rfl (Q0 _ S33.le) U22)) ?_))))
  refine eR rfl F39 rfl (Size13_c (l.length : Int) I _ _ S33 (by first | assumption | omega | (simp; done) | (simp; omega))) ?_
  rintro _ w34 ⟨rfl, S35⟩
  refine vl (.bool (decide (((padPre l j).length : Int) < (bsize (l.length : Int))))) rfl (r_lss rfl rfl) (EL_nil (thn_n ?_))
  refine EC_if (p := ((padPre l j).length : Int) < (bsize (l.length : Int))) rfl (fun h36 => ?_) (fun h36 => ?_)
  refine EC_skip (thn_n (EC_block ?_))
  have hpl := pre_len l j
  refine EC_reg (vM qv rfl e30 ?_)
  refine EL_lit w34.heap.size #[.int .u8 0] elB rfl (by decide) rfl (Nat.le_refl _) (by kernel_rfl) ?_
  intro v37 w38 O39 B40 k41 z42
  have S43 : Sat w38 I (OwnB v37 [(0 : UInt8)] :: OwnB qv (padPre l j) :: R) := S35.newO B40 (own_eq (l := [(0 : UInt8)]) O39 (by simp [bof_val, byt]))
  refine EL_append (v := qv) (xs := (padPre l j).map byt) (ys := [(0 : UInt8)].map byt) 0 elB rfl rfl rfl (own_len (S43.own 1 rfl)) (own_row (S43.own 0 rfl)) (byt_one _) (by first | (simp only [List.length_map, List.length_nil, List.length_append]; omega) | (simp; done) | (simp; omega)) (by decide) (Nat.zero_le _) ?_
  intro v44 w45 O46 G47 A48
  have S49 := S43.gb1 G47 (own_app O46) A48
  refine vA v44 rfl rfl (EL_nil (inB_n (thn_n ?_)))
  have q51 : (padPre l j) ++ [(0 : UInt8)] = padPre l (j + 1) := pre_step l j
  have S50 := S49.ab1 q51
  have S52 := S50.dr0
  refine ⟨_, ?_, j + 1, v44, rfl, rfl, (by exact e31), (by exact e32), by omega, S52⟩
  first | omega | (simp; omega)
  refine EC_exit (thn_x (thn_x (inB_hit (thn_n (EC_seq ?_)))))
  refine EC_reg (vM qv rfl e30 (vA qv rfl rfl (EL_nil (thn_n (EC_ret ?_)))))
  refine fin1 Tryz.results42 (show _ = qv from rfl) ⟨_, rfl, ?_⟩
  have q54 : padPre l j = bpad l := pre_end (by omega)
  have S53 := S35.ab0 q54
  exact ⟨qv, rfl, S53⟩

set_option maxRecDepth 100000 in
set_option maxHeartbeats 4000000 in
theorem Nonce14_c (a : Int) (b : Int) (I : Gh) (R : List HP) (w : World) (S : Sat w I (R)) (ha : 0 ≤ a ∧ a ≤ 1099511627776) (hb : 0 ≤ b ∧ b ≤ 1099511627776) : Ret Tryz.prog 18 [.int .i64 a, .int .i64 b] w fun v w' => ∃ v1 : Value, v1 = v ∧ Sat w' I (OwnB v1 (be6 a ++ be6 b) :: R) := by
  refine ret_E Tryz.func18 rfl Tryz.ntmps18 (by simp) ?_
  refine EC_seq (EC_reg (vA (.slice none 0 0) rfl rfl (EL_nil (thn_n (EC_seq ?_)))))
  refine EC_reg ?_
  refine EL_lit w.heap.size #[] elB rfl (by decide) rfl (Nat.le_refl _) (by kernel_rfl) ?_
  intro v11 w12 O13 B14 k15 z16
  have S17 : Sat w12 I (OwnB v11 ([] : List UInt8) :: R) := S.newO B14 (own_eq (l := ([] : List UInt8)) O13 (by simp [bof_val, byt]))
  refine vM (.int .i64 a) rfl rfl ?_
  refine eR rfl F57 rfl (Num8_c a I _ _ S17 (by first | assumption | omega | (simp; done) | (simp; omega))) ?_
  rintro _ w18 ⟨v20, rfl, S19⟩
  have hl21 := be6_len a
  refine EL_append (v := v11) (xs := ([] : List UInt8).map byt) (ys := (be6 a).map byt) 0 elB rfl rfl rfl (own_len (S19.own 1 rfl)) (own_row (S19.own 0 rfl)) (byt_one _) (by first | (simp only [List.length_map, List.length_nil, List.length_append]; omega) | (simp; done) | (simp; omega)) (by decide) (Nat.zero_le _) ?_
  intro v22 w23 O24 G25 A26
  have S27 := S19.gb1 G25 (own_app O24) A26
  refine vM (.int .i64 b) rfl rfl ?_
  refine eR rfl F57 rfl (Num8_c b I _ _ S27 (by first | assumption | omega | (simp; done) | (simp; omega))) ?_
  rintro _ w28 ⟨v30, rfl, S29⟩
  have hl31 := be6_len b
  refine EL_append (v := v22) (xs := (([] : List UInt8) ++ (be6 a)).map byt) (ys := (be6 b).map byt) 0 elB rfl rfl rfl (own_len (S29.own 2 rfl)) (own_row (S29.own 0 rfl)) (byt_one _) (by first | (simp only [List.length_map, List.length_nil, List.length_append]; omega) | (simp; done) | (simp; omega)) (by decide) (Nat.zero_le _) ?_
  intro v32 w33 O34 G35 A36
  have S37 := S29.gb2 G35 (own_app O34) A36
  refine vA v32 rfl rfl (EL_nil (thn_n (EC_ret ?_)))
  refine fin1 Tryz.results18 (show _ = v32 from rfl) ⟨_, rfl, ?_⟩
  have q39 : (([] : List UInt8) ++ (be6 a)) ++ (be6 b) = be6 a ++ be6 b := by simp
  have S38 := S37.ab2 q39
  have S40 := S38.dr0
  have S41 := S40.dr0
  exact ⟨v32, rfl, S41⟩

set_option maxRecDepth 100000 in
set_option maxHeartbeats 4000000 in
theorem Nums15_c (cr : List Value) (r : Record) (I : Gh) (R : List HP) (w : World) (S : Sat w I (R)) (hr : recR.r I cr r) : Ret Tryz.prog 17 [.agg cr.toArray] w fun v w' => .bool r.nums = v ∧ Sat w' I (R) := by
  obtain ⟨v15, rfl, r11, r12, r13, r14, ⟨o16, H17⟩⟩ := hr
  refine ret_E Tryz.func17 rfl Tryz.ntmps17 (by simp) ?_
  refine EC_seq (EC_reg ?_)
  refine EL_box (recRC r v15) rfl rfl rfl ?_
  intro b18 w19 k20 A21 B22 z23
  have S24 := S.newB B22 A21 k20
  refine vA (.bool false) rfl rfl (EL_nil (thn_n (EC_seq (EC_reg (vl (ptr b18 0) rfl (fP 0 rfl U46 (by kernel_rfl)) ?_)))))
  refine vL (.int .i64 r.coll) rfl rfl (S24.arr 0 rfl) rfl U3 rfl (vl (.bool (decide (1 ≤ r.coll))) rfl (r_geq rfl rfl) (vM (.bool (decide (1 ≤ r.coll))) rfl rfl (EL_gite 6 rfl rfl rfl (ptr b18 0) rfl (fun g25 => fP 0 rfl U46 (by kernel_rfl)) (EL_gite 6 rfl rfl rfl (.int .i64 r.coll) rfl (fun g26 => r_loadA (cond_of g26 rfl) (S24.arr 0 rfl) (u := (.int .i64 r.coll)) rfl U3 rfl) (EL_gite 6 rfl rfl rfl (.bool (decide (r.coll ≤ 1099511627776))) rfl (fun g27 => r_leq (cond_of g27 rfl) rfl) ?_)))))
  refine vl (.bool ((decide (1 ≤ r.coll)) && (decide (r.coll ≤ 1099511627776)))) rfl (r_and rfl rfl rfl) (vM (.bool ((decide (1 ≤ r.coll)) && (decide (r.coll ≤ 1099511627776)))) rfl rfl (EL_gite 11 rfl rfl rfl (ptr b18 1) rfl (fun g28 => fP 0 rfl U46 (by kernel_rfl)) (EL_gite 11 rfl rfl rfl (.int .i64 r.epoch) rfl (fun g29 => r_loadA (cond_of g29 rfl) (S24.arr 0 rfl) (u := (.int .i64 r.epoch)) rfl U3 rfl) (EL_gite 11 rfl rfl rfl (.bool (decide (0 ≤ r.epoch))) rfl (fun g30 => r_geq (cond_of g30 rfl) rfl) (vl (.bool (((decide (1 ≤ r.coll)) && (decide (r.coll ≤ 1099511627776))) && (decide (0 ≤ r.epoch)))) rfl (r_and rfl rfl rfl) ?_)))))
  refine vM (.bool (((decide (1 ≤ r.coll)) && (decide (r.coll ≤ 1099511627776))) && (decide (0 ≤ r.epoch)))) rfl rfl (EL_gite 16 rfl rfl rfl (ptr b18 1) rfl (fun g31 => fP 0 rfl U46 (by kernel_rfl)) (EL_gite 16 rfl rfl rfl (.int .i64 r.epoch) rfl (fun g32 => r_loadA (cond_of g32 rfl) (S24.arr 0 rfl) (u := (.int .i64 r.epoch)) rfl U3 rfl) (EL_gite 16 rfl rfl rfl (.bool (decide (r.epoch ≤ 16))) rfl (fun g33 => r_leq (cond_of g33 rfl) rfl) (vl (.bool ((((decide (1 ≤ r.coll)) && (decide (r.coll ≤ 1099511627776))) && (decide (0 ≤ r.epoch))) && (decide (r.epoch ≤ 16)))) rfl (r_and rfl rfl rfl) (vM (.bool ((((decide (1 ≤ r.coll)) && (decide (r.coll ≤ 1099511627776))) && (decide (0 ≤ r.epoch))) && (decide (r.epoch ≤ 16)))) rfl rfl ?_)))))
  refine EL_gite 21 rfl rfl rfl (ptr b18 2) rfl (fun g34 => fP 0 rfl U46 (by kernel_rfl)) (EL_gite 21 rfl rfl rfl (.int .i64 r.writer) rfl (fun g35 => r_loadA (cond_of g35 rfl) (S24.arr 0 rfl) (u := (.int .i64 r.writer)) rfl U3 rfl) (EL_gite 21 rfl rfl rfl (.bool (decide (1 ≤ r.writer))) rfl (fun g36 => r_geq (cond_of g36 rfl) rfl) (vl (.bool (((((decide (1 ≤ r.coll)) && (decide (r.coll ≤ 1099511627776))) && (decide (0 ≤ r.epoch))) && (decide (r.epoch ≤ 16))) && (decide (1 ≤ r.writer)))) rfl (r_and rfl rfl rfl) (vM (.bool (((((decide (1 ≤ r.coll)) && (decide (r.coll ≤ 1099511627776))) && (decide (0 ≤ r.epoch))) && (decide (r.epoch ≤ 16))) && (decide (1 ≤ r.writer)))) rfl rfl (EL_gite 26 rfl rfl rfl (ptr b18 2) rfl (fun g37 => fP 0 rfl U46 (by kernel_rfl)) ?_)))))
  refine EL_gite 26 rfl rfl rfl (.int .i64 r.writer) rfl (fun g38 => r_loadA (cond_of g38 rfl) (S24.arr 0 rfl) (u := (.int .i64 r.writer)) rfl U3 rfl) (EL_gite 26 rfl rfl rfl (.bool (decide (r.writer ≤ 16))) rfl (fun g39 => r_leq (cond_of g39 rfl) rfl) (vl (.bool ((((((decide (1 ≤ r.coll)) && (decide (r.coll ≤ 1099511627776))) && (decide (0 ≤ r.epoch))) && (decide (r.epoch ≤ 16))) && (decide (1 ≤ r.writer))) && (decide (r.writer ≤ 16)))) rfl (r_and rfl rfl rfl) (vM (.bool ((((((decide (1 ≤ r.coll)) && (decide (r.coll ≤ 1099511627776))) && (decide (0 ≤ r.epoch))) && (decide (r.epoch ≤ 16))) && (decide (1 ≤ r.writer))) && (decide (r.writer ≤ 16)))) rfl rfl (EL_gite 31 rfl rfl rfl (ptr b18 3) rfl (fun g40 => fP 0 rfl U46 (by kernel_rfl)) (EL_gite 31 rfl rfl rfl (.int .i64 r.count) rfl (fun g41 => r_loadA (cond_of g41 rfl) (S24.arr 0 rfl) (u := (.int .i64 r.count)) rfl U3 rfl) ?_)))))
  refine EL_gite 31 rfl rfl rfl (.bool (decide (1 ≤ r.count))) rfl (fun g42 => r_geq (cond_of g42 rfl) rfl) (vl (.bool (((((((decide (1 ≤ r.coll)) && (decide (r.coll ≤ 1099511627776))) && (decide (0 ≤ r.epoch))) && (decide (r.epoch ≤ 16))) && (decide (1 ≤ r.writer))) && (decide (r.writer ≤ 16))) && (decide (1 ≤ r.count)))) rfl (r_and rfl rfl rfl) (vM (.bool (((((((decide (1 ≤ r.coll)) && (decide (r.coll ≤ 1099511627776))) && (decide (0 ≤ r.epoch))) && (decide (r.epoch ≤ 16))) && (decide (1 ≤ r.writer))) && (decide (r.writer ≤ 16))) && (decide (1 ≤ r.count)))) rfl rfl (EL_gite 36 rfl rfl rfl (ptr b18 3) rfl (fun g43 => fP 0 rfl U46 (by kernel_rfl)) (EL_gite 36 rfl rfl rfl (.int .i64 r.count) rfl (fun g44 => r_loadA (cond_of g44 rfl) (S24.arr 0 rfl) (u := (.int .i64 r.count)) rfl U3 rfl) (EL_gite 36 rfl rfl rfl (.bool (decide (r.count ≤ 1099511627776))) rfl (fun g45 => r_leq (cond_of g45 rfl) rfl) ?_)))))
  refine vl (.bool ((((((((decide (1 ≤ r.coll)) && (decide (r.coll ≤ 1099511627776))) && (decide (0 ≤ r.epoch))) && (decide (r.epoch ≤ 16))) && (decide (1 ≤ r.writer))) && (decide (r.writer ≤ 16))) && (decide (1 ≤ r.count))) && (decide (r.count ≤ 1099511627776)))) rfl (r_and rfl rfl rfl) (vA (.bool ((((((((decide (1 ≤ r.coll)) && (decide (r.coll ≤ 1099511627776))) && (decide (0 ≤ r.epoch))) && (decide (r.epoch ≤ 16))) && (decide (1 ≤ r.writer))) && (decide (r.writer ≤ 16))) && (decide (1 ≤ r.count))) && (decide (r.count ≤ 1099511627776)))) rfl rfl (EL_nil (thn_n (EC_ret ?_))))
  refine fin1 Tryz.results17 (show _ = .bool ((((((((decide (1 ≤ r.coll)) && (decide (r.coll ≤ 1099511627776))) && (decide (0 ≤ r.epoch))) && (decide (r.epoch ≤ 16))) && (decide (1 ≤ r.writer))) && (decide (r.writer ≤ 16))) && (decide (1 ≤ r.count))) && (decide (r.count ≤ 1099511627776))) from rfl) ⟨_, rfl, ?_⟩
  have S46 := S24.dr0
  exact ⟨rfl, S46⟩

set_option maxRecDepth 100000 in
set_option maxHeartbeats 4000000 in
theorem Right15_c (cr : List Value) (r : Record) (I : Gh) (R : List HP) (w : World) (S : Sat w I (R)) (hr : recR.r I cr r) : Ret Tryz.prog 51 [.agg cr.toArray] w fun v w' => .bool r.right = v ∧ Sat w' I (R) := by
  obtain ⟨v15, rfl, r11, r12, r13, r14, ⟨o16, H17⟩⟩ := hr
  refine ret_E Tryz.func51 rfl Tryz.ntmps51 (by simp) ?_
  refine EC_seq (EC_reg ?_)
  refine EL_box (recRC r v15) rfl rfl rfl ?_
  intro b18 w19 k20 A21 B22 z23
  have S24 := S.newB B22 A21 k20
  refine vA (.bool false) rfl rfl (EL_nil (thn_n (EC_seq ?_)))
  rcases (by cases r.nums <;> simp : r.nums = true ∨ r.nums = false) with hnu | hnu
  refine EC_reg (vl (.agg ((recRC r v15)).toArray) rfl (r_loadAll rfl (S24.arr 0 rfl) U46 rfl (by kernel_rfl)) ?_)
  refine eR rfl F17 rfl (Nums15_c (recRC r v15) r I _ _ S24 ⟨v15, rfl, (by first | assumption | (dsimp only; omega)), (by first | assumption | (dsimp only; omega)), (by first | assumption | (dsimp only; omega)), (by first | assumption | (dsimp only; omega)), ⟨o16, H17⟩⟩) ?_
  rintro _ w25 ⟨rfl, S26⟩
  refine vl (.bool true) rfl (r_move (Eq.trans (show _ = Value.bool (r.nums) from rfl) (congrArg Value.bool (show (r.nums) = true from hnu)))) (gl  5 rfl rfl rfl rfl (ptr b18 4) rfl (fP 0 rfl U46 (by kernel_rfl)) ?_)
  refine gL  5 rfl rfl rfl rfl v15 rfl rfl (S26.arr 0 rfl) rfl U22 rfl ?_
  refine gl  5 rfl rfl rfl rfl (.int .i64 (r.box.length : Int)) rfl (lenB (r_len rfl (H17 _ S26.le) U22)) (gl  5 rfl rfl rfl rfl (.bool (decide (80 ≤ (r.box.length : Int)))) rfl (r_geq rfl rfl) (vT (.bool (decide (80 ≤ (r.box.length : Int)))) rfl rfl rfl (vM (.bool (decide (80 ≤ (r.box.length : Int)))) rfl rfl (EL_gite 11 rfl rfl rfl (ptr b18 4) rfl (fun g27 => fP 0 rfl U46 (by kernel_rfl)) (EL_gite 11 rfl rfl rfl v15 rfl (fun g28 => r_loadA (cond_of g28 rfl) (S26.arr 0 rfl) (u := v15) rfl U22 rfl) ?_)))))
  refine EL_gite 11 rfl rfl rfl (.int .i64 (r.box.length : Int)) rfl (fun g29 => lenB (r_len (cond_of g29 rfl) (H17 _ S26.le) U22)) (EL_gite 11 rfl rfl rfl (.bool (decide ((r.box.length : Int) ≤ 2064))) rfl (fun g30 => r_leq (cond_of g30 rfl) rfl) (vl (.bool ((decide (80 ≤ (r.box.length : Int))) && (decide ((r.box.length : Int) ≤ 2064)))) rfl (r_and rfl rfl rfl) (vA (.bool ((decide (80 ≤ (r.box.length : Int))) && (decide ((r.box.length : Int) ≤ 2064)))) rfl rfl (EL_nil (thn_n ?_)))))
  refine EC_ret ?_
  refine fin1 Tryz.results51 (show _ = .bool ((decide (80 ≤ (r.box.length : Int))) && (decide ((r.box.length : Int) ≤ 2064))) from rfl) ⟨_, rfl, ?_⟩
  have S31 := S26.dr0
  exact ⟨(congrArg Value.bool (by rw [Record.right, hnu] <;> simp)), S31⟩
  refine EC_reg (vl (.agg ((recRC r v15)).toArray) rfl (r_loadAll rfl (S24.arr 0 rfl) U46 rfl (by kernel_rfl)) ?_)
  refine eR rfl F17 rfl (Nums15_c (recRC r v15) r I _ _ S24 ⟨v15, rfl, (by first | assumption | (dsimp only; omega)), (by first | assumption | (dsimp only; omega)), (by first | assumption | (dsimp only; omega)), (by first | assumption | (dsimp only; omega)), ⟨o16, H17⟩⟩) ?_
  rintro _ w32 ⟨rfl, S33⟩
  refine vl (.bool false) rfl (r_move (Eq.trans (show _ = Value.bool (r.nums) from rfl) (congrArg Value.bool (show (r.nums) = false from hnu)))) (EL_pass 5 rfl rfl rfl rfl rfl (EL_pass 5 rfl rfl rfl rfl rfl (EL_pass 5 rfl rfl rfl rfl rfl (EL_pass 5 rfl rfl rfl rfl rfl (vF (.bool false) rfl rfl rfl ?_)))))
  refine vM (.bool false) rfl rfl (EL_pass 11 rfl rfl rfl rfl rfl (EL_pass 11 rfl rfl rfl rfl rfl (EL_pass 11 rfl rfl rfl rfl rfl (EL_pass 11 rfl rfl rfl rfl rfl (vF (.bool false) rfl rfl rfl ?_)))))
  refine vA (.bool false) rfl rfl (EL_nil (thn_n (EC_ret ?_)))
  refine fin1 Tryz.results51 (show _ = .bool false from rfl) ⟨_, rfl, ?_⟩
  have S34 := S33.dr0
  exact ⟨(congrArg Value.bool (by rw [Record.right, hnu] <;> simp)), S34⟩

set_option maxRecDepth 100000 in
set_option maxHeartbeats 4000000 in
theorem Front15_c (cr : List Value) (r : Record) (I : Gh) (R : List HP) (w : World) (S : Sat w I (R)) (hr : recR.r I cr r) (hnm : r.nums = true) : Ret Tryz.prog 20 [.agg cr.toArray] w fun v w' => ∃ v1 : Value, v1 = v ∧ Sat w' I (OwnB v1 r.front :: R) := by
  obtain ⟨v15, rfl, r11, r12, r13, r14, ⟨o16, H17⟩⟩ := hr
  refine ret_E Tryz.func20 rfl Tryz.ntmps20 (by simp) ?_
  refine EC_seq (EC_reg ?_)
  refine EL_box (recRC r v15) rfl rfl rfl ?_
  intro b18 w19 k20 A21 B22 z23
  have S24 := S.newB B22 A21 k20
  refine vA (.slice none 0 0) rfl rfl (EL_nil (thn_n (EC_seq ?_)))
  have hnu := nums_iff.1 hnm
  refine EC_any 6 (fun w' => Gh.le I (gh w')) (fun w' => Arr w' b18 46 (recRC r v15)) (by kernel_rfl) ?_
  intro w25 B26
  have S27 := S24.below B26
  refine jT 0 rfl (by kernel_rfl) (ptr b18 0) rfl (fun _ hw ht => fP 0 rfl U46 (by kernel_rfl)) ⟨S27.le, fun h => S27.arr 0 rfl⟩ ?_
  refine jT 1 rfl (by kernel_rfl) (.int .i64 r.coll) rfl (fun _ hw ht => r_loadA rfl ht (u := (.int .i64 r.coll)) rfl U3 rfl) ⟨S27.le, fun h => S27.arr 0 rfl⟩ ?_
  refine jT 3 rfl (by kernel_rfl) (ptr b18 1) rfl (fun _ hw ht => fP 0 rfl U46 (by kernel_rfl)) ⟨S27.le, fun h => S27.arr 0 rfl⟩ ?_
  refine jT 4 rfl (by kernel_rfl) (.int .i64 r.epoch) rfl (fun _ hw ht => r_loadA rfl ht (u := (.int .i64 r.epoch)) rfl U3 rfl) ⟨S27.le, fun h => S27.arr 0 rfl⟩ ?_
  refine EJ_one 2 (by kernel_rfl) ⟨_, rfl, ?_⟩
  refine eR rfl F57 rfl (Num8_c r.coll I _ _ S27 (by first | assumption | omega | (simp; done) | (simp; omega))) ?_
  rintro _ w28 ⟨v30, rfl, S29⟩
  have hl31 := be6_len r.coll
  refine EL_nil ?_
  refine ⟨rfl, ⟨S29.le, fun h => S29.arr 1 rfl⟩, ?_⟩
  refine EJ_one 5 (by kernel_rfl) ⟨_, rfl, ?_⟩
  refine eR rfl F57 rfl (Num8_c r.epoch I _ _ S29 (by first | assumption | omega | (simp; done) | (simp; omega))) ?_
  rintro _ w32 ⟨v34, rfl, S33⟩
  have hl35 := be6_len r.epoch
  refine EL_nil ?_
  refine ⟨rfl, ⟨S33.le, fun h => S33.arr 2 rfl⟩, ?_⟩
  refine EJ_one 6 (by kernel_rfl) ⟨_, rfl, ?_⟩
  refine EL_append (v := v30) (xs := (be6 r.coll).map byt) (ys := (be6 r.epoch).map byt) 0 elB rfl rfl rfl (own_len (S33.own 1 rfl)) (own_row (S33.own 0 rfl)) (byt_one _) (by first | (simp only [List.length_map, List.length_nil, List.length_append]; omega) | (simp; done) | (simp; omega)) (by decide) (Nat.zero_le _) ?_
  intro v36 w37 O38 G39 A40
  have S41 := S33.gb1 G39 (own_app O38) A40
  refine EL_nil ?_
  refine ⟨rfl, ⟨S41.le, fun h => by cases h⟩, ?_⟩
  refine jF 7 rfl (by kernel_rfl) v36 rfl (fun _ hw => r_assign rfl) ⟨S41.le, fun h => by cases h⟩ ?_
  refine EJ_done (by kernel_rfl) ?_
  refine thn_n (EC_seq (EC_reg (vM v36 rfl rfl (vl (ptr b18 2) rfl (fP 0 rfl U46 (by kernel_rfl)) (vL (.int .i64 r.writer) rfl rfl (S41.arr 2 rfl) rfl U3 rfl ?_)))))
  refine eR rfl F57 rfl (Num8_c r.writer I _ _ S41 (by first | assumption | omega | (simp; done) | (simp; omega))) ?_
  rintro _ w42 ⟨v44, rfl, S43⟩
  have hl45 := be6_len r.writer
  refine EL_append (v := v36) (xs := ((be6 r.coll) ++ (be6 r.epoch)).map byt) (ys := (be6 r.writer).map byt) 0 elB rfl rfl rfl (own_len (S43.own 2 rfl)) (own_row (S43.own 0 rfl)) (byt_one _) (by first | (simp only [List.length_map, List.length_nil, List.length_append]; omega) | (simp; done) | (simp; omega)) (by decide) (Nat.zero_le _) ?_
  intro v46 w47 O48 G49 A50
  have S51 := S43.gb2 G49 (own_app O48) A50
  refine vA v46 rfl rfl (EL_nil (thn_n (EC_seq (EC_reg (vM v46 rfl rfl ?_)))))
  refine vl (ptr b18 3) rfl (fP 0 rfl U46 (by kernel_rfl)) (vL (.int .i64 r.count) rfl rfl (S51.arr 3 rfl) rfl U3 rfl ?_)
  refine eR rfl F57 rfl (Num8_c r.count I _ _ S51 (by first | assumption | omega | (simp; done) | (simp; omega))) ?_
  rintro _ w52 ⟨v54, rfl, S53⟩
  have hl55 := be6_len r.count
  refine EL_append (v := v46) (xs := (((be6 r.coll) ++ (be6 r.epoch)) ++ (be6 r.writer)).map byt) (ys := (be6 r.count).map byt) 0 elB rfl rfl rfl (own_len (S53.own 3 rfl)) (own_row (S53.own 0 rfl)) (byt_one _) (by first | (simp only [List.length_map, List.length_nil, List.length_append]; omega) | (simp; done) | (simp; omega)) (by decide) (Nat.zero_le _) ?_
  intro v56 w57 O58 G59 A60
  have S61 := S53.gb3 G59 (own_app O58) A60
  refine vA v56 rfl rfl (EL_nil (thn_n (EC_ret ?_)))
  refine fin1 Tryz.results20 (show _ = v56 from rfl) ⟨_, rfl, ?_⟩
  have q63 : (((be6 r.coll) ++ (be6 r.epoch)) ++ (be6 r.writer)) ++ (be6 r.count) = r.front := (front_num hnm).symm
  have S62 := S61.ab3 q63
  have S64 := S62.dr0
  have S65 := S64.dr0
  have S66 := S65.dr0
  have S67 := S66.dr1
  exact ⟨v56, rfl, S67⟩

set_option maxRecDepth 100000 in
set_option maxHeartbeats 4000000 in
theorem Same15_c (ca : List Value) (cb : List Value) (a : Record) (b : Record) (I : Gh) (R : List HP) (w : World) (S : Sat w I (R)) (ha : recR.r I ca a) (hb : recR.r I cb b) : Ret Tryz.prog 13 [.agg ca.toArray, .agg cb.toArray] w fun v w' => .bool (decide (a = b)) = v ∧ Sat w' I (R) := by
  obtain ⟨v15, rfl, r11, r12, r13, r14, ⟨o16, H17⟩⟩ := ha
  obtain ⟨v22, rfl, r18, r19, r20, r21, ⟨o23, H24⟩⟩ := hb
  refine ret_E Tryz.func13 rfl Tryz.ntmps13 (by simp) ?_
  refine EC_seq (EC_reg ?_)
  refine EL_box (recRC a v15) rfl rfl rfl ?_
  intro b25 w26 k27 A28 B29 z30
  have S31 := S.newB B29 A28 k27
  refine EL_box (recRC b v22) rfl rfl rfl ?_
  intro b32 w33 k34 A35 B36 z37
  have S38 := S31.newB B36 A35 k34
  refine vA (.bool false) rfl rfl (EL_nil (thn_n (EC_seq (EC_reg (vl (ptr b25 0) rfl (fP 0 rfl U46 (by kernel_rfl)) ?_)))))
  refine vL (.int .i64 a.coll) rfl rfl (S38.arr 1 rfl) rfl U3 rfl (vl (ptr b32 0) rfl (fP 0 rfl U46 (by kernel_rfl)) (vL (.int .i64 b.coll) rfl rfl (S38.arr 0 rfl) rfl U3 rfl (vl (.bool (decide (a.coll = b.coll))) rfl (r_eql rfl rfl) (vM (.bool (decide (a.coll = b.coll))) rfl rfl (EL_gite 10 rfl rfl rfl (ptr b25 1) rfl (fun g39 => fP 0 rfl U46 (by kernel_rfl)) ?_)))))
  refine EL_gite 10 rfl rfl rfl (.int .i64 a.epoch) rfl (fun g40 => r_loadA (cond_of g40 rfl) (S38.arr 1 rfl) (u := (.int .i64 a.epoch)) rfl U3 rfl) (EL_gite 10 rfl rfl rfl (ptr b32 1) rfl (fun g41 => fP 0 rfl U46 (by kernel_rfl)) (EL_gite 10 rfl rfl rfl (.int .i64 b.epoch) rfl (fun g42 => r_loadA (cond_of g42 rfl) (S38.arr 0 rfl) (u := (.int .i64 b.epoch)) rfl U3 rfl) (EL_gite 10 rfl rfl rfl (.bool (decide (a.epoch = b.epoch))) rfl (fun g43 => r_eql (cond_of g43 rfl) (cond_of g43 rfl)) (vl (.bool ((decide (a.coll = b.coll)) && (decide (a.epoch = b.epoch)))) rfl (r_and rfl rfl rfl) (vM (.bool ((decide (a.coll = b.coll)) && (decide (a.epoch = b.epoch)))) rfl rfl ?_)))))
  refine EL_gite 17 rfl rfl rfl (ptr b25 2) rfl (fun g44 => fP 0 rfl U46 (by kernel_rfl)) (EL_gite 17 rfl rfl rfl (.int .i64 a.writer) rfl (fun g45 => r_loadA (cond_of g45 rfl) (S38.arr 1 rfl) (u := (.int .i64 a.writer)) rfl U3 rfl) (EL_gite 17 rfl rfl rfl (ptr b32 2) rfl (fun g46 => fP 0 rfl U46 (by kernel_rfl)) (EL_gite 17 rfl rfl rfl (.int .i64 b.writer) rfl (fun g47 => r_loadA (cond_of g47 rfl) (S38.arr 0 rfl) (u := (.int .i64 b.writer)) rfl U3 rfl) (EL_gite 17 rfl rfl rfl (.bool (decide (a.writer = b.writer))) rfl (fun g48 => r_eql (cond_of g48 rfl) (cond_of g48 rfl)) (vl (.bool (((decide (a.coll = b.coll)) && (decide (a.epoch = b.epoch))) && (decide (a.writer = b.writer)))) rfl (r_and rfl rfl rfl) ?_)))))
  refine vM (.bool (((decide (a.coll = b.coll)) && (decide (a.epoch = b.epoch))) && (decide (a.writer = b.writer)))) rfl rfl (EL_gite 24 rfl rfl rfl (ptr b25 3) rfl (fun g49 => fP 0 rfl U46 (by kernel_rfl)) (EL_gite 24 rfl rfl rfl (.int .i64 a.count) rfl (fun g50 => r_loadA (cond_of g50 rfl) (S38.arr 1 rfl) (u := (.int .i64 a.count)) rfl U3 rfl) (EL_gite 24 rfl rfl rfl (ptr b32 3) rfl (fun g51 => fP 0 rfl U46 (by kernel_rfl)) (EL_gite 24 rfl rfl rfl (.int .i64 b.count) rfl (fun g52 => r_loadA (cond_of g52 rfl) (S38.arr 0 rfl) (u := (.int .i64 b.count)) rfl U3 rfl) (EL_gite 24 rfl rfl rfl (.bool (decide (a.count = b.count))) rfl (fun g53 => r_eql (cond_of g53 rfl) (cond_of g53 rfl)) ?_)))))
  refine vl (.bool ((((decide (a.coll = b.coll)) && (decide (a.epoch = b.epoch))) && (decide (a.writer = b.writer))) && (decide (a.count = b.count)))) rfl (r_and rfl rfl rfl) (vM (.bool ((((decide (a.coll = b.coll)) && (decide (a.epoch = b.epoch))) && (decide (a.writer = b.writer))) && (decide (a.count = b.count)))) rfl rfl (EL_gite 31 rfl rfl rfl (ptr b25 4) rfl (fun g54 => fP 0 rfl U46 (by kernel_rfl)) (EL_gite 31 rfl rfl rfl v15 rfl (fun g55 => r_loadA (cond_of g55 rfl) (S38.arr 1 rfl) (u := v15) rfl U22 rfl) (EL_gite 31 rfl rfl rfl (.string (str a.box)) rfl (fun g56 => r_str (cond_of g56 rfl) (H17 _ S38.le) U22 U5 U9) (EL_gite 31 rfl rfl rfl (ptr b32 4) rfl (fun g57 => fP 0 rfl U46 (by kernel_rfl)) ?_)))))
  refine EL_gite 31 rfl rfl rfl v22 rfl (fun g58 => r_loadA (cond_of g58 rfl) (S38.arr 0 rfl) (u := v22) rfl U22 rfl) (EL_gite 31 rfl rfl rfl (.string (str b.box)) rfl (fun g59 => r_str (cond_of g59 rfl) (H24 _ S38.le) U22 U5 U9) (EL_gite 31 rfl rfl rfl (.bool (decide (a.box = b.box))) rfl (fun g60 => r_eqls (cond_of g60 rfl) (cond_of g60 rfl)) (vl (.bool (((((decide (a.coll = b.coll)) && (decide (a.epoch = b.epoch))) && (decide (a.writer = b.writer))) && (decide (a.count = b.count))) && (decide (a.box = b.box)))) rfl (r_and rfl rfl rfl) (vA (.bool (((((decide (a.coll = b.coll)) && (decide (a.epoch = b.epoch))) && (decide (a.writer = b.writer))) && (decide (a.count = b.count))) && (decide (a.box = b.box)))) rfl rfl (EL_nil ?_)))))
  refine thn_n (EC_ret ?_)
  refine fin1 Tryz.results13 (show _ = .bool (((((decide (a.coll = b.coll)) && (decide (a.epoch = b.epoch))) && (decide (a.writer = b.writer))) && (decide (a.count = b.count))) && (decide (a.box = b.box))) from rfl) ⟨_, rfl, ?_⟩
  have S61 := S38.dr0
  have S62 := S61.dr0
  exact ⟨(congrArg Value.bool (rec_eqb a b).symm), S62⟩

end Go.Proofs.YtoajodjcmeijgaaGreat
