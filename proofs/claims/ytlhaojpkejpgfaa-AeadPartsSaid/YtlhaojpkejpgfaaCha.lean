import Derived.Test.YtlhaojpkejpgfaaBase
set_option linter.unusedVariables false
set_option linter.unusedSimpArgs false
namespace Go.Proofs.Ytlhaojpkejpgfaa
open Go.RowKit Go.Ecal

set_option maxHeartbeats 2000000 in
theorem rot16 (x : Int) (w : World) (hx : 0 ≤ x ∧ x < 4294967296) : Ret Try.prog 44 [.int .u32 x, .int .i64 16] w fun v w' => v = .int .u32 (rl x 65536) ∧ w = w' := by
  refine ret_E Try.func44 rfl Try.ntmps44 (by simp) ?_
  refine EC_seq ?_
  refine EC_reg ?_
  refine EL_val (.int .u32 0) w rfl (r_assign rfl) ?_
  refine EL_nil ?_
  refine thn_n ?_
  refine EC_seq ?_
  refine EC_reg ?_
  refine EL_val (.int .i64 16) w rfl (r_move rfl) ?_
  refine EL_val (.int .u64 16) w rfl (r_asn (by kernel_rfl) (r_conv 3 60 rfl Try.underlying3 Try.underlying60)) ?_
  refine EL_val (.int .u64 16) w rfl (r_asn (by kernel_rfl) (r_bits (.inl rfl) rfl rfl)) ?_
  refine EL_val (.int .u64 16) w rfl (r_assign rfl) ?_
  refine EL_nil ?_
  refine thn_n ?_
  refine EC_seq ?_
  refine EC_reg ?_
  refine EL_val (.int .u32 x) w rfl (r_move rfl) ?_
  refine EL_val (.int .u64 16) w rfl (r_move rfl) ?_
  refine EL_int (x * 65536 % 4294967296) rfl (r_shlw (n := 16) rfl rfl rfl (by decide) (by decide)) ?_
  intro x11 hx11
  refine EL_val (.int .u32 x) w rfl (r_move rfl) ?_
  refine EL_val (.int .u64 16) w rfl (r_move rfl) ?_
  refine EL_val (.int .u64 16) w rfl (r_asn (by kernel_rfl) (r_sub rfl rfl)) ?_
  refine EL_int (x / 65536) rfl (r_shri (n := 16) rfl rfl rfl (by decide) (by decide)) ?_
  intro x12 hx12
  refine EL_int (x11 + x12) rfl (r_orw (x % 65536).toNat (x / 65536).toNat 16 rfl rfl (by omega) (by omega) (by omega) (by omega)) ?_
  intro x13 hx13
  refine EL_val (.int .u32 x13) w rfl (r_assign rfl) ?_
  refine EL_nil ?_
  refine thn_n ?_
  refine EC_ret ?_
  refine fin1 Try.results44 (show _ = .int .u32 x13 from rfl) ⟨_, rfl, ?_⟩
  exact ⟨congrArg (Value.int .u32) (by simp only [rl]; omega), rfl⟩

set_option maxHeartbeats 2000000 in
theorem left16 (x : Int) (w : World) (hx : 0 ≤ x ∧ x < 4294967296) : Ret Try.prog 45 [.int .i64 x, .int .i64 16] w fun v w' => v = .int .i64 (rl x 65536) ∧ w = w' := by
  refine ret_E Try.func45 rfl Try.ntmps45 (by simp) ?_
  refine EC_seq ?_
  refine EC_reg ?_
  refine EL_val (.int .i64 0) w rfl (r_assign rfl) ?_
  refine EL_nil ?_
  refine thn_n ?_
  refine EC_seq ?_
  refine EC_reg ?_
  refine EL_val (.int .i64 16) w rfl (r_move rfl) ?_
  refine EL_val (.int .i64 65536) w rfl (r_asn (by kernel_rfl) (r_shl rfl rfl (by decide))) ?_
  refine EL_val (.int .i64 65536) w rfl (r_assign rfl) ?_
  refine EL_nil ?_
  refine thn_n ?_
  refine EC_seq ?_
  refine EC_reg ?_
  refine EL_val (.int .i64 x) w rfl (r_move rfl) ?_
  refine EL_val (.int .i64 65536) w rfl (r_move rfl) ?_
  refine EL_int (x * 65536) rfl (r_muli rfl rfl (by omega)) ?_
  intro x11 hx11
  refine EL_int (x11 % 4294967296) rfl (r_remi rfl rfl (by omega) (by omega)) ?_
  intro x12 hx12
  refine EL_val (.int .i64 x) w rfl (r_move rfl) ?_
  refine EL_val (.int .i64 65536) w rfl (r_move rfl) ?_
  refine EL_int (x * 65536) rfl (r_muli rfl rfl (by omega)) ?_
  intro x13 hx13
  refine EL_int (x13 / 4294967296) rfl (r_quoi rfl rfl (by omega) (by omega)) ?_
  intro x14 hx14
  refine EL_int (x12 + x14) rfl (r_addi rfl rfl (by omega)) ?_
  intro x15 hx15
  refine EL_val (.int .i64 x15) w rfl (r_assign rfl) ?_
  refine EL_nil ?_
  refine thn_n ?_
  refine EC_ret ?_
  refine fin1 Try.results45 (show _ = .int .i64 x15 from rfl) ⟨_, rfl, ?_⟩
  exact ⟨congrArg (Value.int .i64) (by simp only [rl]; omega), rfl⟩

set_option maxHeartbeats 2000000 in
theorem rot12 (x : Int) (w : World) (hx : 0 ≤ x ∧ x < 4294967296) : Ret Try.prog 44 [.int .u32 x, .int .i64 12] w fun v w' => v = .int .u32 (rl x 4096) ∧ w = w' := by
  refine ret_E Try.func44 rfl Try.ntmps44 (by simp) ?_
  refine EC_seq ?_
  refine EC_reg ?_
  refine EL_val (.int .u32 0) w rfl (r_assign rfl) ?_
  refine EL_nil ?_
  refine thn_n ?_
  refine EC_seq ?_
  refine EC_reg ?_
  refine EL_val (.int .i64 12) w rfl (r_move rfl) ?_
  refine EL_val (.int .u64 12) w rfl (r_asn (by kernel_rfl) (r_conv 3 60 rfl Try.underlying3 Try.underlying60)) ?_
  refine EL_val (.int .u64 12) w rfl (r_asn (by kernel_rfl) (r_bits (.inl rfl) rfl rfl)) ?_
  refine EL_val (.int .u64 12) w rfl (r_assign rfl) ?_
  refine EL_nil ?_
  refine thn_n ?_
  refine EC_seq ?_
  refine EC_reg ?_
  refine EL_val (.int .u32 x) w rfl (r_move rfl) ?_
  refine EL_val (.int .u64 12) w rfl (r_move rfl) ?_
  refine EL_int (x * 4096 % 4294967296) rfl (r_shlw (n := 12) rfl rfl rfl (by decide) (by decide)) ?_
  intro x11 hx11
  refine EL_val (.int .u32 x) w rfl (r_move rfl) ?_
  refine EL_val (.int .u64 12) w rfl (r_move rfl) ?_
  refine EL_val (.int .u64 20) w rfl (r_asn (by kernel_rfl) (r_sub rfl rfl)) ?_
  refine EL_int (x / 1048576) rfl (r_shri (n := 20) rfl rfl rfl (by decide) (by decide)) ?_
  intro x12 hx12
  refine EL_int (x11 + x12) rfl (r_orw (x % 1048576).toNat (x / 1048576).toNat 12 rfl rfl (by omega) (by omega) (by omega) (by omega)) ?_
  intro x13 hx13
  refine EL_val (.int .u32 x13) w rfl (r_assign rfl) ?_
  refine EL_nil ?_
  refine thn_n ?_
  refine EC_ret ?_
  refine fin1 Try.results44 (show _ = .int .u32 x13 from rfl) ⟨_, rfl, ?_⟩
  exact ⟨congrArg (Value.int .u32) (by simp only [rl]; omega), rfl⟩

set_option maxHeartbeats 2000000 in
theorem left12 (x : Int) (w : World) (hx : 0 ≤ x ∧ x < 4294967296) : Ret Try.prog 45 [.int .i64 x, .int .i64 12] w fun v w' => v = .int .i64 (rl x 4096) ∧ w = w' := by
  refine ret_E Try.func45 rfl Try.ntmps45 (by simp) ?_
  refine EC_seq ?_
  refine EC_reg ?_
  refine EL_val (.int .i64 0) w rfl (r_assign rfl) ?_
  refine EL_nil ?_
  refine thn_n ?_
  refine EC_seq ?_
  refine EC_reg ?_
  refine EL_val (.int .i64 12) w rfl (r_move rfl) ?_
  refine EL_val (.int .i64 4096) w rfl (r_asn (by kernel_rfl) (r_shl rfl rfl (by decide))) ?_
  refine EL_val (.int .i64 4096) w rfl (r_assign rfl) ?_
  refine EL_nil ?_
  refine thn_n ?_
  refine EC_seq ?_
  refine EC_reg ?_
  refine EL_val (.int .i64 x) w rfl (r_move rfl) ?_
  refine EL_val (.int .i64 4096) w rfl (r_move rfl) ?_
  refine EL_int (x * 4096) rfl (r_muli rfl rfl (by omega)) ?_
  intro x11 hx11
  refine EL_int (x11 % 4294967296) rfl (r_remi rfl rfl (by omega) (by omega)) ?_
  intro x12 hx12
  refine EL_val (.int .i64 x) w rfl (r_move rfl) ?_
  refine EL_val (.int .i64 4096) w rfl (r_move rfl) ?_
  refine EL_int (x * 4096) rfl (r_muli rfl rfl (by omega)) ?_
  intro x13 hx13
  refine EL_int (x13 / 4294967296) rfl (r_quoi rfl rfl (by omega) (by omega)) ?_
  intro x14 hx14
  refine EL_int (x12 + x14) rfl (r_addi rfl rfl (by omega)) ?_
  intro x15 hx15
  refine EL_val (.int .i64 x15) w rfl (r_assign rfl) ?_
  refine EL_nil ?_
  refine thn_n ?_
  refine EC_ret ?_
  refine fin1 Try.results45 (show _ = .int .i64 x15 from rfl) ⟨_, rfl, ?_⟩
  exact ⟨congrArg (Value.int .i64) (by simp only [rl]; omega), rfl⟩

set_option maxHeartbeats 2000000 in
theorem rot8 (x : Int) (w : World) (hx : 0 ≤ x ∧ x < 4294967296) : Ret Try.prog 44 [.int .u32 x, .int .i64 8] w fun v w' => v = .int .u32 (rl x 256) ∧ w = w' := by
  refine ret_E Try.func44 rfl Try.ntmps44 (by simp) ?_
  refine EC_seq ?_
  refine EC_reg ?_
  refine EL_val (.int .u32 0) w rfl (r_assign rfl) ?_
  refine EL_nil ?_
  refine thn_n ?_
  refine EC_seq ?_
  refine EC_reg ?_
  refine EL_val (.int .i64 8) w rfl (r_move rfl) ?_
  refine EL_val (.int .u64 8) w rfl (r_asn (by kernel_rfl) (r_conv 3 60 rfl Try.underlying3 Try.underlying60)) ?_
  refine EL_val (.int .u64 8) w rfl (r_asn (by kernel_rfl) (r_bits (.inl rfl) rfl rfl)) ?_
  refine EL_val (.int .u64 8) w rfl (r_assign rfl) ?_
  refine EL_nil ?_
  refine thn_n ?_
  refine EC_seq ?_
  refine EC_reg ?_
  refine EL_val (.int .u32 x) w rfl (r_move rfl) ?_
  refine EL_val (.int .u64 8) w rfl (r_move rfl) ?_
  refine EL_int (x * 256 % 4294967296) rfl (r_shlw (n := 8) rfl rfl rfl (by decide) (by decide)) ?_
  intro x11 hx11
  refine EL_val (.int .u32 x) w rfl (r_move rfl) ?_
  refine EL_val (.int .u64 8) w rfl (r_move rfl) ?_
  refine EL_val (.int .u64 24) w rfl (r_asn (by kernel_rfl) (r_sub rfl rfl)) ?_
  refine EL_int (x / 16777216) rfl (r_shri (n := 24) rfl rfl rfl (by decide) (by decide)) ?_
  intro x12 hx12
  refine EL_int (x11 + x12) rfl (r_orw (x % 16777216).toNat (x / 16777216).toNat 8 rfl rfl (by omega) (by omega) (by omega) (by omega)) ?_
  intro x13 hx13
  refine EL_val (.int .u32 x13) w rfl (r_assign rfl) ?_
  refine EL_nil ?_
  refine thn_n ?_
  refine EC_ret ?_
  refine fin1 Try.results44 (show _ = .int .u32 x13 from rfl) ⟨_, rfl, ?_⟩
  exact ⟨congrArg (Value.int .u32) (by simp only [rl]; omega), rfl⟩

set_option maxHeartbeats 2000000 in
theorem left8 (x : Int) (w : World) (hx : 0 ≤ x ∧ x < 4294967296) : Ret Try.prog 45 [.int .i64 x, .int .i64 8] w fun v w' => v = .int .i64 (rl x 256) ∧ w = w' := by
  refine ret_E Try.func45 rfl Try.ntmps45 (by simp) ?_
  refine EC_seq ?_
  refine EC_reg ?_
  refine EL_val (.int .i64 0) w rfl (r_assign rfl) ?_
  refine EL_nil ?_
  refine thn_n ?_
  refine EC_seq ?_
  refine EC_reg ?_
  refine EL_val (.int .i64 8) w rfl (r_move rfl) ?_
  refine EL_val (.int .i64 256) w rfl (r_asn (by kernel_rfl) (r_shl rfl rfl (by decide))) ?_
  refine EL_val (.int .i64 256) w rfl (r_assign rfl) ?_
  refine EL_nil ?_
  refine thn_n ?_
  refine EC_seq ?_
  refine EC_reg ?_
  refine EL_val (.int .i64 x) w rfl (r_move rfl) ?_
  refine EL_val (.int .i64 256) w rfl (r_move rfl) ?_
  refine EL_int (x * 256) rfl (r_muli rfl rfl (by omega)) ?_
  intro x11 hx11
  refine EL_int (x11 % 4294967296) rfl (r_remi rfl rfl (by omega) (by omega)) ?_
  intro x12 hx12
  refine EL_val (.int .i64 x) w rfl (r_move rfl) ?_
  refine EL_val (.int .i64 256) w rfl (r_move rfl) ?_
  refine EL_int (x * 256) rfl (r_muli rfl rfl (by omega)) ?_
  intro x13 hx13
  refine EL_int (x13 / 4294967296) rfl (r_quoi rfl rfl (by omega) (by omega)) ?_
  intro x14 hx14
  refine EL_int (x12 + x14) rfl (r_addi rfl rfl (by omega)) ?_
  intro x15 hx15
  refine EL_val (.int .i64 x15) w rfl (r_assign rfl) ?_
  refine EL_nil ?_
  refine thn_n ?_
  refine EC_ret ?_
  refine fin1 Try.results45 (show _ = .int .i64 x15 from rfl) ⟨_, rfl, ?_⟩
  exact ⟨congrArg (Value.int .i64) (by simp only [rl]; omega), rfl⟩

set_option maxHeartbeats 2000000 in
theorem rot7 (x : Int) (w : World) (hx : 0 ≤ x ∧ x < 4294967296) : Ret Try.prog 44 [.int .u32 x, .int .i64 7] w fun v w' => v = .int .u32 (rl x 128) ∧ w = w' := by
  refine ret_E Try.func44 rfl Try.ntmps44 (by simp) ?_
  refine EC_seq ?_
  refine EC_reg ?_
  refine EL_val (.int .u32 0) w rfl (r_assign rfl) ?_
  refine EL_nil ?_
  refine thn_n ?_
  refine EC_seq ?_
  refine EC_reg ?_
  refine EL_val (.int .i64 7) w rfl (r_move rfl) ?_
  refine EL_val (.int .u64 7) w rfl (r_asn (by kernel_rfl) (r_conv 3 60 rfl Try.underlying3 Try.underlying60)) ?_
  refine EL_val (.int .u64 7) w rfl (r_asn (by kernel_rfl) (r_bits (.inl rfl) rfl rfl)) ?_
  refine EL_val (.int .u64 7) w rfl (r_assign rfl) ?_
  refine EL_nil ?_
  refine thn_n ?_
  refine EC_seq ?_
  refine EC_reg ?_
  refine EL_val (.int .u32 x) w rfl (r_move rfl) ?_
  refine EL_val (.int .u64 7) w rfl (r_move rfl) ?_
  refine EL_int (x * 128 % 4294967296) rfl (r_shlw (n := 7) rfl rfl rfl (by decide) (by decide)) ?_
  intro x11 hx11
  refine EL_val (.int .u32 x) w rfl (r_move rfl) ?_
  refine EL_val (.int .u64 7) w rfl (r_move rfl) ?_
  refine EL_val (.int .u64 25) w rfl (r_asn (by kernel_rfl) (r_sub rfl rfl)) ?_
  refine EL_int (x / 33554432) rfl (r_shri (n := 25) rfl rfl rfl (by decide) (by decide)) ?_
  intro x12 hx12
  refine EL_int (x11 + x12) rfl (r_orw (x % 33554432).toNat (x / 33554432).toNat 7 rfl rfl (by omega) (by omega) (by omega) (by omega)) ?_
  intro x13 hx13
  refine EL_val (.int .u32 x13) w rfl (r_assign rfl) ?_
  refine EL_nil ?_
  refine thn_n ?_
  refine EC_ret ?_
  refine fin1 Try.results44 (show _ = .int .u32 x13 from rfl) ⟨_, rfl, ?_⟩
  exact ⟨congrArg (Value.int .u32) (by simp only [rl]; omega), rfl⟩

set_option maxHeartbeats 2000000 in
theorem left7 (x : Int) (w : World) (hx : 0 ≤ x ∧ x < 4294967296) : Ret Try.prog 45 [.int .i64 x, .int .i64 7] w fun v w' => v = .int .i64 (rl x 128) ∧ w = w' := by
  refine ret_E Try.func45 rfl Try.ntmps45 (by simp) ?_
  refine EC_seq ?_
  refine EC_reg ?_
  refine EL_val (.int .i64 0) w rfl (r_assign rfl) ?_
  refine EL_nil ?_
  refine thn_n ?_
  refine EC_seq ?_
  refine EC_reg ?_
  refine EL_val (.int .i64 7) w rfl (r_move rfl) ?_
  refine EL_val (.int .i64 128) w rfl (r_asn (by kernel_rfl) (r_shl rfl rfl (by decide))) ?_
  refine EL_val (.int .i64 128) w rfl (r_assign rfl) ?_
  refine EL_nil ?_
  refine thn_n ?_
  refine EC_seq ?_
  refine EC_reg ?_
  refine EL_val (.int .i64 x) w rfl (r_move rfl) ?_
  refine EL_val (.int .i64 128) w rfl (r_move rfl) ?_
  refine EL_int (x * 128) rfl (r_muli rfl rfl (by omega)) ?_
  intro x11 hx11
  refine EL_int (x11 % 4294967296) rfl (r_remi rfl rfl (by omega) (by omega)) ?_
  intro x12 hx12
  refine EL_val (.int .i64 x) w rfl (r_move rfl) ?_
  refine EL_val (.int .i64 128) w rfl (r_move rfl) ?_
  refine EL_int (x * 128) rfl (r_muli rfl rfl (by omega)) ?_
  intro x13 hx13
  refine EL_int (x13 / 4294967296) rfl (r_quoi rfl rfl (by omega) (by omega)) ?_
  intro x14 hx14
  refine EL_int (x12 + x14) rfl (r_addi rfl rfl (by omega)) ?_
  intro x15 hx15
  refine EL_val (.int .i64 x15) w rfl (r_assign rfl) ?_
  refine EL_nil ?_
  refine thn_n ?_
  refine EC_ret ?_
  refine fin1 Try.results45 (show _ = .int .i64 x15 from rfl) ⟨_, rfl, ?_⟩
  exact ⟨congrArg (Value.int .i64) (by simp only [rl]; omega), rfl⟩

set_option maxHeartbeats 2000000 in
theorem cget_c (v0 : Value) (b : List UInt8) (w : World) (H0 : Bs w v0 b) (hb : 4 ≤ b.length) : Ret Try.prog 34 [v0] w fun v w' => v = .int .u32 (wd b 0) ∧ Below w.heap.size w w' := by
  refine ret_E Try.func34 rfl Try.ntmps34 (by simp) ?_
  refine EC_seq ?_
  refine EC_reg ?_
  refine EL_val (.int .u32 0) w rfl (r_assign rfl) ?_
  refine EL_nil ?_
  refine thn_n ?_
  refine EC_seq ?_
  refine EC_quietB (by kernel_rfl) (by kernel_rfl) ?_
  refine EQ_val v0 rfl (fun _ hw => r_move rfl) ?_
  refine EQ_val (.pointer (some (at_ v0 ((0 : Int).toNat)))) rfl (fun _ hw => r_index rfl (H0.below hw) rfl (by omega) (by first | omega | (simp; omega) | simp) Try.underlying22 (by kernel_rfl)) ?_
  obtain ⟨b11, hb12⟩ := get_some (l := b) (j := (0 : Int).toNat) (by omega)
  have hb13 := b11.toNat_lt
  refine EQ_val (.int .u8 (b11.toNat : Int)) rfl (fun _ hw => r_load rfl ((H0.below hw).cell (bs_get hb12)) Try.underlying5 rfl) ?_
  refine EQ_val (.int .u32 (b11.toNat : Int)) rfl (fun _ hw => r_asn (by omega) (r_convw 5 42 rfl Try.underlying5 Try.underlying42)) ?_
  refine EQ_val v0 rfl (fun _ hw => r_move rfl) ?_
  refine EQ_val (.pointer (some (at_ v0 ((1 : Int).toNat)))) rfl (fun _ hw => r_index rfl (H0.below hw) rfl (by omega) (by first | omega | (simp; omega) | simp) Try.underlying22 (by kernel_rfl)) ?_
  obtain ⟨b14, hb15⟩ := get_some (l := b) (j := (1 : Int).toNat) (by omega)
  have hb16 := b14.toNat_lt
  refine EQ_val (.int .u8 (b14.toNat : Int)) rfl (fun _ hw => r_load rfl ((H0.below hw).cell (bs_get hb15)) Try.underlying5 rfl) ?_
  refine EQ_val (.int .u32 (b14.toNat : Int)) rfl (fun _ hw => r_asn (by omega) (r_convw 5 42 rfl Try.underlying5 Try.underlying42)) ?_
  refine EQ_int ((b14.toNat : Int) * 256 % 4294967296) rfl (fun _ hw => r_shlw (n := 8) rfl rfl rfl (by decide) (by decide)) ?_
  intro x17 hx17
  refine EQ_int ((b11.toNat : Int) + x17) rfl (fun _ hw => r_orw' b14.toNat ((b11.toNat : Int)).toNat 8 rfl rfl (by omega) (by omega) (by omega) (by omega)) ?_
  intro x18 hx18
  refine EQ_val v0 rfl (fun _ hw => r_move rfl) ?_
  refine EQ_val (.pointer (some (at_ v0 ((2 : Int).toNat)))) rfl (fun _ hw => r_index rfl (H0.below hw) rfl (by omega) (by first | omega | (simp; omega) | simp) Try.underlying22 (by kernel_rfl)) ?_
  obtain ⟨b19, hb20⟩ := get_some (l := b) (j := (2 : Int).toNat) (by omega)
  have hb21 := b19.toNat_lt
  refine EQ_val (.int .u8 (b19.toNat : Int)) rfl (fun _ hw => r_load rfl ((H0.below hw).cell (bs_get hb20)) Try.underlying5 rfl) ?_
  refine EQ_val (.int .u32 (b19.toNat : Int)) rfl (fun _ hw => r_asn (by omega) (r_convw 5 42 rfl Try.underlying5 Try.underlying42)) ?_
  refine EQ_int ((b19.toNat : Int) * 65536 % 4294967296) rfl (fun _ hw => r_shlw (n := 16) rfl rfl rfl (by decide) (by decide)) ?_
  intro x22 hx22
  refine EQ_int (x18 + x22) rfl (fun _ hw => r_orw' b19.toNat (x18).toNat 16 rfl rfl (by omega) (by omega) (by omega) (by omega)) ?_
  intro x23 hx23
  refine EQ_val v0 rfl (fun _ hw => r_move rfl) ?_
  refine EQ_val (.pointer (some (at_ v0 ((3 : Int).toNat)))) rfl (fun _ hw => r_index rfl (H0.below hw) rfl (by omega) (by first | omega | (simp; omega) | simp) Try.underlying22 (by kernel_rfl)) ?_
  obtain ⟨b24, hb25⟩ := get_some (l := b) (j := (3 : Int).toNat) (by omega)
  have hb26 := b24.toNat_lt
  refine EQ_val (.int .u8 (b24.toNat : Int)) rfl (fun _ hw => r_load rfl ((H0.below hw).cell (bs_get hb25)) Try.underlying5 rfl) ?_
  refine EQ_val (.int .u32 (b24.toNat : Int)) rfl (fun _ hw => r_asn (by omega) (r_convw 5 42 rfl Try.underlying5 Try.underlying42)) ?_
  refine EQ_int ((b24.toNat : Int) * 16777216 % 4294967296) rfl (fun _ hw => r_shlw (n := 24) rfl rfl rfl (by decide) (by decide)) ?_
  intro x27 hx27
  refine EQ_int (x23 + x27) rfl (fun _ hw => r_orw' b24.toNat (x23).toNat 24 rfl rfl (by omega) (by omega) (by omega) (by omega)) ?_
  intro x28 hx28
  refine EQ_val (.int .u32 x28) rfl (fun _ hw => r_assign rfl) ?_
  refine EQ_nil ?_
  intro w29 B30
  have B31 : Below w.heap.size w w29 := B30
  refine thn_n ?_
  refine EC_ret ?_
  refine fin1 Try.results34 (show _ = .int .u32 x28 from rfl) ⟨_, rfl, ?_⟩
  have f0 : bi b (0) = _ := bi_of (i := 0) hb12
  have f1 : bi b (0 + 1) = _ := bi_of (i := 1) hb15
  have f2 : bi b (0 + 2) = _ := bi_of (i := 2) hb20
  have f3 : bi b (0 + 3) = _ := bi_of (i := 3) hb25
  exact ⟨congrArg (Value.int .u32) (by simp only [wd]; rw [f0, f1, f2, f3]; omega), B31⟩

set_option maxHeartbeats 2000000 in
theorem word_c (v0 : Value) (b : List UInt8) (i : Int) (w : World) (H0 : Bs w v0 b) (hi : 0 ≤ i) (hb : i + 4 ≤ b.length) : Ret Try.prog 38 [v0, .int .i64 i] w fun v w' => v = .int .i64 (wd b i.toNat) ∧ Below w.heap.size w w' := by
  have hl := H0.len_le
  simp only [List.length_map] at hl
  refine ret_E Try.func38 rfl Try.ntmps38 (by simp) ?_
  refine EC_seq ?_
  refine EC_reg ?_
  refine EL_val (.int .i64 0) w rfl (r_assign rfl) ?_
  refine EL_nil ?_
  refine thn_n ?_
  refine EC_seq ?_
  refine EC_quietB (by kernel_rfl) (by kernel_rfl) ?_
  refine EQ_val v0 rfl (fun _ hw => r_move rfl) ?_
  refine EQ_val (.int .i64 i) rfl (fun _ hw => r_move rfl) ?_
  refine EQ_val (.pointer (some (at_ v0 ((i : Int).toNat)))) rfl (fun _ hw => r_index rfl (H0.below hw) rfl (by omega) (by first | omega | (simp; omega) | simp) Try.underlying22 (by kernel_rfl)) ?_
  obtain ⟨b11, hb12⟩ := get_some (l := b) (j := (i : Int).toNat) (by omega)
  have hb13 := b11.toNat_lt
  refine EQ_val (.int .u8 (b11.toNat : Int)) rfl (fun _ hw => r_load rfl ((H0.below hw).cell (bs_get hb12)) Try.underlying5 rfl) ?_
  refine EQ_val (.int .i64 (b11.toNat : Int)) rfl (fun _ hw => r_convi 5 3 rfl Try.underlying5 Try.underlying3 (by omega)) ?_
  refine EQ_val v0 rfl (fun _ hw => r_move rfl) ?_
  refine EQ_val (.int .i64 i) rfl (fun _ hw => r_move rfl) ?_
  refine EQ_int (i + 1) rfl (fun _ hw => r_addi rfl rfl (by omega)) ?_
  intro x14 hx14
  refine EQ_val (.pointer (some (at_ v0 ((x14 : Int).toNat)))) rfl (fun _ hw => r_index rfl (H0.below hw) rfl (by omega) (by first | omega | (simp; omega) | simp) Try.underlying22 (by kernel_rfl)) ?_
  obtain ⟨b15, hb16⟩ := get_some (l := b) (j := (x14 : Int).toNat) (by omega)
  have hb17 := b15.toNat_lt
  refine EQ_val (.int .u8 (b15.toNat : Int)) rfl (fun _ hw => r_load rfl ((H0.below hw).cell (bs_get hb16)) Try.underlying5 rfl) ?_
  refine EQ_val (.int .i64 (b15.toNat : Int)) rfl (fun _ hw => r_convi 5 3 rfl Try.underlying5 Try.underlying3 (by omega)) ?_
  refine EQ_int ((b15.toNat : Int) * 256) rfl (fun _ hw => r_muli rfl rfl (by omega)) ?_
  intro x18 hx18
  refine EQ_int ((b11.toNat : Int) + x18) rfl (fun _ hw => r_addi rfl rfl (by omega)) ?_
  intro x19 hx19
  refine EQ_val v0 rfl (fun _ hw => r_move rfl) ?_
  refine EQ_val (.int .i64 i) rfl (fun _ hw => r_move rfl) ?_
  refine EQ_int (i + 2) rfl (fun _ hw => r_addi rfl rfl (by omega)) ?_
  intro x20 hx20
  refine EQ_val (.pointer (some (at_ v0 ((x20 : Int).toNat)))) rfl (fun _ hw => r_index rfl (H0.below hw) rfl (by omega) (by first | omega | (simp; omega) | simp) Try.underlying22 (by kernel_rfl)) ?_
  obtain ⟨b21, hb22⟩ := get_some (l := b) (j := (x20 : Int).toNat) (by omega)
  have hb23 := b21.toNat_lt
  refine EQ_val (.int .u8 (b21.toNat : Int)) rfl (fun _ hw => r_load rfl ((H0.below hw).cell (bs_get hb22)) Try.underlying5 rfl) ?_
  refine EQ_val (.int .i64 (b21.toNat : Int)) rfl (fun _ hw => r_convi 5 3 rfl Try.underlying5 Try.underlying3 (by omega)) ?_
  refine EQ_int ((b21.toNat : Int) * 65536) rfl (fun _ hw => r_muli rfl rfl (by omega)) ?_
  intro x24 hx24
  refine EQ_int (x19 + x24) rfl (fun _ hw => r_addi rfl rfl (by omega)) ?_
  intro x25 hx25
  refine EQ_val v0 rfl (fun _ hw => r_move rfl) ?_
  refine EQ_val (.int .i64 i) rfl (fun _ hw => r_move rfl) ?_
  refine EQ_int (i + 3) rfl (fun _ hw => r_addi rfl rfl (by omega)) ?_
  intro x26 hx26
  refine EQ_val (.pointer (some (at_ v0 ((x26 : Int).toNat)))) rfl (fun _ hw => r_index rfl (H0.below hw) rfl (by omega) (by first | omega | (simp; omega) | simp) Try.underlying22 (by kernel_rfl)) ?_
  obtain ⟨b27, hb28⟩ := get_some (l := b) (j := (x26 : Int).toNat) (by omega)
  have hb29 := b27.toNat_lt
  refine EQ_val (.int .u8 (b27.toNat : Int)) rfl (fun _ hw => r_load rfl ((H0.below hw).cell (bs_get hb28)) Try.underlying5 rfl) ?_
  refine EQ_val (.int .i64 (b27.toNat : Int)) rfl (fun _ hw => r_convi 5 3 rfl Try.underlying5 Try.underlying3 (by omega)) ?_
  refine EQ_int ((b27.toNat : Int) * 16777216) rfl (fun _ hw => r_muli rfl rfl (by omega)) ?_
  intro x30 hx30
  refine EQ_int (x25 + x30) rfl (fun _ hw => r_addi rfl rfl (by omega)) ?_
  intro x31 hx31
  refine EQ_val (.int .i64 x31) rfl (fun _ hw => r_assign rfl) ?_
  refine EQ_nil ?_
  intro w32 B33
  have B34 : Below w.heap.size w w32 := B33
  refine thn_n ?_
  refine EC_ret ?_
  refine fin1 Try.results38 (show _ = .int .i64 x31 from rfl) ⟨_, rfl, ?_⟩
  have e1 : (i + 1).toNat = i.toNat + 1 := by omega
  have e2 : (i + 2).toNat = i.toNat + 2 := by omega
  have e3 : (i + 3).toNat = i.toNat + 3 := by omega
  have f0 : bi b (i.toNat + 0) = _ := bi_of (by rw [show i.toNat + 0 = (i : Int).toNat from by omega]; exact hb12)
  have f1 : bi b (i.toNat + 1) = _ := bi_of (by rw [show i.toNat + 1 = (x14 : Int).toNat from by omega]; exact hb16)
  have f2 : bi b (i.toNat + 2) = _ := bi_of (by rw [show i.toNat + 2 = (x20 : Int).toNat from by omega]; exact hb22)
  have f3 : bi b (i.toNat + 3) = _ := bi_of (by rw [show i.toNat + 3 = (x26 : Int).toNat from by omega]; exact hb28)
  exact ⟨congrArg (Value.int .i64) (by simp only [wd]; rw [f1, f2, f3, show bi b i.toNat = _ from f0]; omega), B34⟩

theorem get_at (v0 : Value) (b : List UInt8) (i : Nat) (w : World) (H0 : Bs w v0 (b.drop i)) (hb : i + 4 ≤ b.length) : Ret Try.prog 34 [v0] w fun v w' => v = .int .u32 (wd b i) ∧ Below w.heap.size w w' := by
  rw [← wd_drop]; exact cget_c v0 _ w H0 (by simp; omega)

theorem quarter_c (q : Nat) (l : List Int) (hok : OK l) (a b c d : Int) (ha : 0 ≤ a ∧ a < 16) (hb : 0 ≤ b ∧ b < 16) (hc : 0 ≤ c ∧ c < 16) (hd : 0 ≤ d ∧ d < 16) (w : World) (H0 : Arr w q 44 (l.map (Value.int .u32))) : Ret Try.prog 35 [ptr q, .int .i64 a, .int .i64 b, .int .i64 c, .int .i64 d] w fun v w' => v = .tuple #[] ∧ Arr w' q 44 ((qr l a.toNat b.toNat c.toNat d.toNat).map (Value.int .u32)) ∧ w.grownBy w' (some q) := by
  have hl := hok.1
  refine ret_E Try.func35 rfl Try.ntmps35 (by simp) ?_
  refine EC_seq ?_
  refine EC_tail 13 (by kernel_rfl) (by kernel_rfl) ?_
  intro w11 B12 z13
  have G14 : w.grownBy w11 (some q) := kept_below (kept_refl _ _) B12
  have B15 : Below w.heap.size w w11 := B12
  refine ES_val (ptr q) rfl (r_move rfl) ?_
  refine ES_val (.int .i64 a) rfl (r_move rfl) ?_
  refine ES_val (ptr q) rfl (r_nil rfl) ?_
  refine ES_val (ptr q ((a : Int).toNat)) rfl (r_indexA (i := a) rfl rfl (by omega) (by omega) Try.underlying44 (by kernel_rfl)) ?_
  obtain ⟨x16, hx17⟩ := get_some (l := l) (j := (a : Int).toNat) (by first | omega | (simp; omega) | simp)
  have := hok.get hx17
  refine ES_val (.int .u32 x16) rfl (r_loadA rfl (H0.below B15) (int_get hx17) Try.underlying42 rfl) ?_
  refine ES_val (ptr q) rfl (r_move rfl) ?_
  refine ES_val (.int .i64 b) rfl (r_move rfl) ?_
  refine ES_val (ptr q) rfl (r_nil rfl) ?_
  refine ES_val (ptr q ((b : Int).toNat)) rfl (r_indexA (i := b) rfl rfl (by omega) (by omega) Try.underlying44 (by kernel_rfl)) ?_
  obtain ⟨x18, hx19⟩ := get_some (l := l) (j := (b : Int).toNat) (by first | omega | (simp; omega) | simp)
  have := hok.get hx19
  refine ES_val (.int .u32 x18) rfl (r_loadA rfl (H0.below B15) (int_get hx19) Try.underlying42 rfl) ?_
  refine ES_int ((x16 + x18) % 4294967296) rfl (r_addw rfl rfl) ?_
  intro x20 hx20
  refine ES_val (ptr q) rfl (r_nil rfl) ?_
  refine ES_val (ptr q ((a : Int).toNat)) rfl (r_indexA (i := a) rfl rfl (by omega) (by omega) Try.underlying44 (by kernel_rfl)) ?_
  refine ES_nil ?_
  refine EL_storeA (j := (a : Int).toNat) (u := .int .u32 x20) rfl rfl (H0.below B15) (by first | (simp; omega) | simp) rfl (by kernel_rfl) ?_
  intro w21 A22 K23 z24
  have A22' : Arr w21 q 44 ((l.set ((a : Int).toNat) x20).map (Value.int .u32)) := by simpa [List.map_set] using A22
  have G25 : w.grownBy w21 (some q) := kept_trans G14 K23
  obtain ⟨l1, el1⟩ : ∃ z, z = sa l a.toNat b.toNat := ⟨_, rfl⟩
  have eq0 : l.set ((a : Int).toNat) x20 = l1 := by rw [el1]; subst_vars; exact sa_of hx17 hx19
  have ok0 : OK l1 := by rw [el1]; exact hok.sa _ _
  have hl0 : l1.length = 16 := ok0.1
  have T26 : Arr w21 q 44 (l1.map (Value.int .u32)) := by rw [← eq0]; exact A22'
  refine EL_nil ?_
  refine thn_n ?_
  refine EC_seq ?_
  refine EC_tail 16 (by kernel_rfl) (by kernel_rfl) ?_
  intro w27 B28 z29
  have G30 : w.grownBy w27 (some q) := kept_below G25 B28
  have B31 : Below w21.heap.size w21 w27 := B28
  refine ES_val (ptr q) rfl (r_move rfl) ?_
  refine ES_val (.int .i64 d) rfl (r_move rfl) ?_
  refine ES_val (ptr q) rfl (r_move rfl) ?_
  refine ES_val (.int .i64 d) rfl (r_move rfl) ?_
  refine ES_val (ptr q) rfl (r_nil rfl) ?_
  refine ES_val (ptr q ((d : Int).toNat)) rfl (r_indexA (i := d) rfl rfl (by omega) (by omega) Try.underlying44 (by kernel_rfl)) ?_
  obtain ⟨x32, hx33⟩ := get_some (l := l1) (j := (d : Int).toNat) (by first | omega | (simp; omega) | simp)
  have := ok0.get hx33
  refine ES_val (.int .u32 x32) rfl (r_loadA rfl (T26.below B31) (int_get hx33) Try.underlying42 rfl) ?_
  refine ES_val (ptr q) rfl (r_move rfl) ?_
  refine ES_val (.int .i64 a) rfl (r_move rfl) ?_
  refine ES_val (ptr q) rfl (r_nil rfl) ?_
  refine ES_val (ptr q ((a : Int).toNat)) rfl (r_indexA (i := a) rfl rfl (by omega) (by omega) Try.underlying44 (by kernel_rfl)) ?_
  obtain ⟨x34, hx35⟩ := get_some (l := l1) (j := (a : Int).toNat) (by first | omega | (simp; omega) | simp)
  have := ok0.get hx35
  refine ES_val (.int .u32 x34) rfl (r_loadA rfl (T26.below B31) (int_get hx35) Try.underlying42 rfl) ?_
  have m36 := xr_lt32 (m := x32) (n := x34) (by omega) (by omega)
  refine ES_val (.int .u32 (xr x32 x34)) rfl (r_xori rfl rfl (by decide) (by omega) (by omega)) ?_
  have m37 := rl_lt (x := xr x32 x34) (p := 65536) (by omega) (by decide)
  refine ES_call (.int .u32 (rl (xr x32 x34) 65536)) [.int .u32 (xr x32 x34), .int .i64 16] rfl Try.func44 rfl nm44 rfl ((rot16 (xr x32 x34) w27 (by omega)).mono (fun v w1 h => ⟨h.1, h.2.symm⟩)) ?_
  refine ES_val (ptr q) rfl (r_nil rfl) ?_
  refine ES_val (ptr q ((d : Int).toNat)) rfl (r_indexA (i := d) rfl rfl (by omega) (by omega) Try.underlying44 (by kernel_rfl)) ?_
  refine ES_nil ?_
  refine EL_storeA (j := (d : Int).toNat) (u := .int .u32 (rl (xr x32 x34) 65536)) rfl rfl (T26.below B31) (by first | (simp; omega) | simp) rfl (by kernel_rfl) ?_
  intro w38 A39 K40 z41
  have A39' : Arr w38 q 44 ((l1.set ((d : Int).toNat) (rl (xr x32 x34) 65536)).map (Value.int .u32)) := by simpa [List.map_set] using A39
  have G42 : w.grownBy w38 (some q) := kept_trans G30 K40
  obtain ⟨l2, el2⟩ : ∃ z, z = sx l1 d.toNat a.toNat 65536 := ⟨_, rfl⟩
  have eq1 : l1.set ((d : Int).toNat) (rl (xr x32 x34) 65536) = l2 := by rw [el2]; subst_vars; exact sx_of hx33 hx35
  have ok1 : OK l2 := by rw [el2]; exact ok0.sx _ _ (by decide)
  have hl1 : l2.length = 16 := ok1.1
  have T43 : Arr w38 q 44 (l2.map (Value.int .u32)) := by rw [← eq1]; exact A39'
  refine EL_nil ?_
  refine thn_n ?_
  refine EC_seq ?_
  refine EC_tail 13 (by kernel_rfl) (by kernel_rfl) ?_
  intro w44 B45 z46
  have G47 : w.grownBy w44 (some q) := kept_below G42 B45
  have B48 : Below w38.heap.size w38 w44 := B45
  refine ES_val (ptr q) rfl (r_move rfl) ?_
  refine ES_val (.int .i64 c) rfl (r_move rfl) ?_
  refine ES_val (ptr q) rfl (r_nil rfl) ?_
  refine ES_val (ptr q ((c : Int).toNat)) rfl (r_indexA (i := c) rfl rfl (by omega) (by omega) Try.underlying44 (by kernel_rfl)) ?_
  obtain ⟨x49, hx50⟩ := get_some (l := l2) (j := (c : Int).toNat) (by first | omega | (simp; omega) | simp)
  have := ok1.get hx50
  refine ES_val (.int .u32 x49) rfl (r_loadA rfl (T43.below B48) (int_get hx50) Try.underlying42 rfl) ?_
  refine ES_val (ptr q) rfl (r_move rfl) ?_
  refine ES_val (.int .i64 d) rfl (r_move rfl) ?_
  refine ES_val (ptr q) rfl (r_nil rfl) ?_
  refine ES_val (ptr q ((d : Int).toNat)) rfl (r_indexA (i := d) rfl rfl (by omega) (by omega) Try.underlying44 (by kernel_rfl)) ?_
  obtain ⟨x51, hx52⟩ := get_some (l := l2) (j := (d : Int).toNat) (by first | omega | (simp; omega) | simp)
  have := ok1.get hx52
  refine ES_val (.int .u32 x51) rfl (r_loadA rfl (T43.below B48) (int_get hx52) Try.underlying42 rfl) ?_
  refine ES_int ((x49 + x51) % 4294967296) rfl (r_addw rfl rfl) ?_
  intro x53 hx53
  refine ES_val (ptr q) rfl (r_nil rfl) ?_
  refine ES_val (ptr q ((c : Int).toNat)) rfl (r_indexA (i := c) rfl rfl (by omega) (by omega) Try.underlying44 (by kernel_rfl)) ?_
  refine ES_nil ?_
  refine EL_storeA (j := (c : Int).toNat) (u := .int .u32 x53) rfl rfl (T43.below B48) (by first | (simp; omega) | simp) rfl (by kernel_rfl) ?_
  intro w54 A55 K56 z57
  have A55' : Arr w54 q 44 ((l2.set ((c : Int).toNat) x53).map (Value.int .u32)) := by simpa [List.map_set] using A55
  have G58 : w.grownBy w54 (some q) := kept_trans G47 K56
  obtain ⟨l3, el3⟩ : ∃ z, z = sa l2 c.toNat d.toNat := ⟨_, rfl⟩
  have eq2 : l2.set ((c : Int).toNat) x53 = l3 := by rw [el3]; subst_vars; exact sa_of hx50 hx52
  have ok2 : OK l3 := by rw [el3]; exact ok1.sa _ _
  have hl2 : l3.length = 16 := ok2.1
  have T59 : Arr w54 q 44 (l3.map (Value.int .u32)) := by rw [← eq2]; exact A55'
  refine EL_nil ?_
  refine thn_n ?_
  refine EC_seq ?_
  refine EC_tail 16 (by kernel_rfl) (by kernel_rfl) ?_
  intro w60 B61 z62
  have G63 : w.grownBy w60 (some q) := kept_below G58 B61
  have B64 : Below w54.heap.size w54 w60 := B61
  refine ES_val (ptr q) rfl (r_move rfl) ?_
  refine ES_val (.int .i64 b) rfl (r_move rfl) ?_
  refine ES_val (ptr q) rfl (r_move rfl) ?_
  refine ES_val (.int .i64 b) rfl (r_move rfl) ?_
  refine ES_val (ptr q) rfl (r_nil rfl) ?_
  refine ES_val (ptr q ((b : Int).toNat)) rfl (r_indexA (i := b) rfl rfl (by omega) (by omega) Try.underlying44 (by kernel_rfl)) ?_
  obtain ⟨x65, hx66⟩ := get_some (l := l3) (j := (b : Int).toNat) (by first | omega | (simp; omega) | simp)
  have := ok2.get hx66
  refine ES_val (.int .u32 x65) rfl (r_loadA rfl (T59.below B64) (int_get hx66) Try.underlying42 rfl) ?_
  refine ES_val (ptr q) rfl (r_move rfl) ?_
  refine ES_val (.int .i64 c) rfl (r_move rfl) ?_
  refine ES_val (ptr q) rfl (r_nil rfl) ?_
  refine ES_val (ptr q ((c : Int).toNat)) rfl (r_indexA (i := c) rfl rfl (by omega) (by omega) Try.underlying44 (by kernel_rfl)) ?_
  obtain ⟨x67, hx68⟩ := get_some (l := l3) (j := (c : Int).toNat) (by first | omega | (simp; omega) | simp)
  have := ok2.get hx68
  refine ES_val (.int .u32 x67) rfl (r_loadA rfl (T59.below B64) (int_get hx68) Try.underlying42 rfl) ?_
  have m69 := xr_lt32 (m := x65) (n := x67) (by omega) (by omega)
  refine ES_val (.int .u32 (xr x65 x67)) rfl (r_xori rfl rfl (by decide) (by omega) (by omega)) ?_
  have m70 := rl_lt (x := xr x65 x67) (p := 4096) (by omega) (by decide)
  refine ES_call (.int .u32 (rl (xr x65 x67) 4096)) [.int .u32 (xr x65 x67), .int .i64 12] rfl Try.func44 rfl nm44 rfl ((rot12 (xr x65 x67) w60 (by omega)).mono (fun v w1 h => ⟨h.1, h.2.symm⟩)) ?_
  refine ES_val (ptr q) rfl (r_nil rfl) ?_
  refine ES_val (ptr q ((b : Int).toNat)) rfl (r_indexA (i := b) rfl rfl (by omega) (by omega) Try.underlying44 (by kernel_rfl)) ?_
  refine ES_nil ?_
  refine EL_storeA (j := (b : Int).toNat) (u := .int .u32 (rl (xr x65 x67) 4096)) rfl rfl (T59.below B64) (by first | (simp; omega) | simp) rfl (by kernel_rfl) ?_
  intro w71 A72 K73 z74
  have A72' : Arr w71 q 44 ((l3.set ((b : Int).toNat) (rl (xr x65 x67) 4096)).map (Value.int .u32)) := by simpa [List.map_set] using A72
  have G75 : w.grownBy w71 (some q) := kept_trans G63 K73
  obtain ⟨l4, el4⟩ : ∃ z, z = sx l3 b.toNat c.toNat 4096 := ⟨_, rfl⟩
  have eq3 : l3.set ((b : Int).toNat) (rl (xr x65 x67) 4096) = l4 := by rw [el4]; subst_vars; exact sx_of hx66 hx68
  have ok3 : OK l4 := by rw [el4]; exact ok2.sx _ _ (by decide)
  have hl3 : l4.length = 16 := ok3.1
  have T76 : Arr w71 q 44 (l4.map (Value.int .u32)) := by rw [← eq3]; exact A72'
  refine EL_nil ?_
  refine thn_n ?_
  refine EC_seq ?_
  refine EC_tail 13 (by kernel_rfl) (by kernel_rfl) ?_
  intro w77 B78 z79
  have G80 : w.grownBy w77 (some q) := kept_below G75 B78
  have B81 : Below w71.heap.size w71 w77 := B78
  refine ES_val (ptr q) rfl (r_move rfl) ?_
  refine ES_val (.int .i64 a) rfl (r_move rfl) ?_
  refine ES_val (ptr q) rfl (r_nil rfl) ?_
  refine ES_val (ptr q ((a : Int).toNat)) rfl (r_indexA (i := a) rfl rfl (by omega) (by omega) Try.underlying44 (by kernel_rfl)) ?_
  obtain ⟨x82, hx83⟩ := get_some (l := l4) (j := (a : Int).toNat) (by first | omega | (simp; omega) | simp)
  have := ok3.get hx83
  refine ES_val (.int .u32 x82) rfl (r_loadA rfl (T76.below B81) (int_get hx83) Try.underlying42 rfl) ?_
  refine ES_val (ptr q) rfl (r_move rfl) ?_
  refine ES_val (.int .i64 b) rfl (r_move rfl) ?_
  refine ES_val (ptr q) rfl (r_nil rfl) ?_
  refine ES_val (ptr q ((b : Int).toNat)) rfl (r_indexA (i := b) rfl rfl (by omega) (by omega) Try.underlying44 (by kernel_rfl)) ?_
  obtain ⟨x84, hx85⟩ := get_some (l := l4) (j := (b : Int).toNat) (by first | omega | (simp; omega) | simp)
  have := ok3.get hx85
  refine ES_val (.int .u32 x84) rfl (r_loadA rfl (T76.below B81) (int_get hx85) Try.underlying42 rfl) ?_
  refine ES_int ((x82 + x84) % 4294967296) rfl (r_addw rfl rfl) ?_
  intro x86 hx86
  refine ES_val (ptr q) rfl (r_nil rfl) ?_
  refine ES_val (ptr q ((a : Int).toNat)) rfl (r_indexA (i := a) rfl rfl (by omega) (by omega) Try.underlying44 (by kernel_rfl)) ?_
  refine ES_nil ?_
  refine EL_storeA (j := (a : Int).toNat) (u := .int .u32 x86) rfl rfl (T76.below B81) (by first | (simp; omega) | simp) rfl (by kernel_rfl) ?_
  intro w87 A88 K89 z90
  have A88' : Arr w87 q 44 ((l4.set ((a : Int).toNat) x86).map (Value.int .u32)) := by simpa [List.map_set] using A88
  have G91 : w.grownBy w87 (some q) := kept_trans G80 K89
  obtain ⟨l5, el5⟩ : ∃ z, z = sa l4 a.toNat b.toNat := ⟨_, rfl⟩
  have eq4 : l4.set ((a : Int).toNat) x86 = l5 := by rw [el5]; subst_vars; exact sa_of hx83 hx85
  have ok4 : OK l5 := by rw [el5]; exact ok3.sa _ _
  have hl4 : l5.length = 16 := ok4.1
  have T92 : Arr w87 q 44 (l5.map (Value.int .u32)) := by rw [← eq4]; exact A88'
  refine EL_nil ?_
  refine thn_n ?_
  refine EC_seq ?_
  refine EC_tail 16 (by kernel_rfl) (by kernel_rfl) ?_
  intro w93 B94 z95
  have G96 : w.grownBy w93 (some q) := kept_below G91 B94
  have B97 : Below w87.heap.size w87 w93 := B94
  refine ES_val (ptr q) rfl (r_move rfl) ?_
  refine ES_val (.int .i64 d) rfl (r_move rfl) ?_
  refine ES_val (ptr q) rfl (r_move rfl) ?_
  refine ES_val (.int .i64 d) rfl (r_move rfl) ?_
  refine ES_val (ptr q) rfl (r_nil rfl) ?_
  refine ES_val (ptr q ((d : Int).toNat)) rfl (r_indexA (i := d) rfl rfl (by omega) (by omega) Try.underlying44 (by kernel_rfl)) ?_
  obtain ⟨x98, hx99⟩ := get_some (l := l5) (j := (d : Int).toNat) (by first | omega | (simp; omega) | simp)
  have := ok4.get hx99
  refine ES_val (.int .u32 x98) rfl (r_loadA rfl (T92.below B97) (int_get hx99) Try.underlying42 rfl) ?_
  refine ES_val (ptr q) rfl (r_move rfl) ?_
  refine ES_val (.int .i64 a) rfl (r_move rfl) ?_
  refine ES_val (ptr q) rfl (r_nil rfl) ?_
  refine ES_val (ptr q ((a : Int).toNat)) rfl (r_indexA (i := a) rfl rfl (by omega) (by omega) Try.underlying44 (by kernel_rfl)) ?_
  obtain ⟨x100, hx101⟩ := get_some (l := l5) (j := (a : Int).toNat) (by first | omega | (simp; omega) | simp)
  have := ok4.get hx101
  refine ES_val (.int .u32 x100) rfl (r_loadA rfl (T92.below B97) (int_get hx101) Try.underlying42 rfl) ?_
  have m102 := xr_lt32 (m := x98) (n := x100) (by omega) (by omega)
  refine ES_val (.int .u32 (xr x98 x100)) rfl (r_xori rfl rfl (by decide) (by omega) (by omega)) ?_
  have m103 := rl_lt (x := xr x98 x100) (p := 256) (by omega) (by decide)
  refine ES_call (.int .u32 (rl (xr x98 x100) 256)) [.int .u32 (xr x98 x100), .int .i64 8] rfl Try.func44 rfl nm44 rfl ((rot8 (xr x98 x100) w93 (by omega)).mono (fun v w1 h => ⟨h.1, h.2.symm⟩)) ?_
  refine ES_val (ptr q) rfl (r_nil rfl) ?_
  refine ES_val (ptr q ((d : Int).toNat)) rfl (r_indexA (i := d) rfl rfl (by omega) (by omega) Try.underlying44 (by kernel_rfl)) ?_
  refine ES_nil ?_
  refine EL_storeA (j := (d : Int).toNat) (u := .int .u32 (rl (xr x98 x100) 256)) rfl rfl (T92.below B97) (by first | (simp; omega) | simp) rfl (by kernel_rfl) ?_
  intro w104 A105 K106 z107
  have A105' : Arr w104 q 44 ((l5.set ((d : Int).toNat) (rl (xr x98 x100) 256)).map (Value.int .u32)) := by simpa [List.map_set] using A105
  have G108 : w.grownBy w104 (some q) := kept_trans G96 K106
  obtain ⟨l6, el6⟩ : ∃ z, z = sx l5 d.toNat a.toNat 256 := ⟨_, rfl⟩
  have eq5 : l5.set ((d : Int).toNat) (rl (xr x98 x100) 256) = l6 := by rw [el6]; subst_vars; exact sx_of hx99 hx101
  have ok5 : OK l6 := by rw [el6]; exact ok4.sx _ _ (by decide)
  have hl5 : l6.length = 16 := ok5.1
  have T109 : Arr w104 q 44 (l6.map (Value.int .u32)) := by rw [← eq5]; exact A105'
  refine EL_nil ?_
  refine thn_n ?_
  refine EC_seq ?_
  refine EC_tail 13 (by kernel_rfl) (by kernel_rfl) ?_
  intro w110 B111 z112
  have G113 : w.grownBy w110 (some q) := kept_below G108 B111
  have B114 : Below w104.heap.size w104 w110 := B111
  refine ES_val (ptr q) rfl (r_move rfl) ?_
  refine ES_val (.int .i64 c) rfl (r_move rfl) ?_
  refine ES_val (ptr q) rfl (r_nil rfl) ?_
  refine ES_val (ptr q ((c : Int).toNat)) rfl (r_indexA (i := c) rfl rfl (by omega) (by omega) Try.underlying44 (by kernel_rfl)) ?_
  obtain ⟨x115, hx116⟩ := get_some (l := l6) (j := (c : Int).toNat) (by first | omega | (simp; omega) | simp)
  have := ok5.get hx116
  refine ES_val (.int .u32 x115) rfl (r_loadA rfl (T109.below B114) (int_get hx116) Try.underlying42 rfl) ?_
  refine ES_val (ptr q) rfl (r_move rfl) ?_
  refine ES_val (.int .i64 d) rfl (r_move rfl) ?_
  refine ES_val (ptr q) rfl (r_nil rfl) ?_
  refine ES_val (ptr q ((d : Int).toNat)) rfl (r_indexA (i := d) rfl rfl (by omega) (by omega) Try.underlying44 (by kernel_rfl)) ?_
  obtain ⟨x117, hx118⟩ := get_some (l := l6) (j := (d : Int).toNat) (by first | omega | (simp; omega) | simp)
  have := ok5.get hx118
  refine ES_val (.int .u32 x117) rfl (r_loadA rfl (T109.below B114) (int_get hx118) Try.underlying42 rfl) ?_
  refine ES_int ((x115 + x117) % 4294967296) rfl (r_addw rfl rfl) ?_
  intro x119 hx119
  refine ES_val (ptr q) rfl (r_nil rfl) ?_
  refine ES_val (ptr q ((c : Int).toNat)) rfl (r_indexA (i := c) rfl rfl (by omega) (by omega) Try.underlying44 (by kernel_rfl)) ?_
  refine ES_nil ?_
  refine EL_storeA (j := (c : Int).toNat) (u := .int .u32 x119) rfl rfl (T109.below B114) (by first | (simp; omega) | simp) rfl (by kernel_rfl) ?_
  intro w120 A121 K122 z123
  have A121' : Arr w120 q 44 ((l6.set ((c : Int).toNat) x119).map (Value.int .u32)) := by simpa [List.map_set] using A121
  have G124 : w.grownBy w120 (some q) := kept_trans G113 K122
  obtain ⟨l7, el7⟩ : ∃ z, z = sa l6 c.toNat d.toNat := ⟨_, rfl⟩
  have eq6 : l6.set ((c : Int).toNat) x119 = l7 := by rw [el7]; subst_vars; exact sa_of hx116 hx118
  have ok6 : OK l7 := by rw [el7]; exact ok5.sa _ _
  have hl6 : l7.length = 16 := ok6.1
  have T125 : Arr w120 q 44 (l7.map (Value.int .u32)) := by rw [← eq6]; exact A121'
  refine EL_nil ?_
  refine thn_n ?_
  refine EC_tail 16 (by kernel_rfl) (by kernel_rfl) ?_
  intro w126 B127 z128
  have G129 : w.grownBy w126 (some q) := kept_below G124 B127
  have B130 : Below w120.heap.size w120 w126 := B127
  refine ES_val (ptr q) rfl (r_move rfl) ?_
  refine ES_val (.int .i64 b) rfl (r_move rfl) ?_
  refine ES_val (ptr q) rfl (r_move rfl) ?_
  refine ES_val (.int .i64 b) rfl (r_move rfl) ?_
  refine ES_val (ptr q) rfl (r_nil rfl) ?_
  refine ES_val (ptr q ((b : Int).toNat)) rfl (r_indexA (i := b) rfl rfl (by omega) (by omega) Try.underlying44 (by kernel_rfl)) ?_
  obtain ⟨x131, hx132⟩ := get_some (l := l7) (j := (b : Int).toNat) (by first | omega | (simp; omega) | simp)
  have := ok6.get hx132
  refine ES_val (.int .u32 x131) rfl (r_loadA rfl (T125.below B130) (int_get hx132) Try.underlying42 rfl) ?_
  refine ES_val (ptr q) rfl (r_move rfl) ?_
  refine ES_val (.int .i64 c) rfl (r_move rfl) ?_
  refine ES_val (ptr q) rfl (r_nil rfl) ?_
  refine ES_val (ptr q ((c : Int).toNat)) rfl (r_indexA (i := c) rfl rfl (by omega) (by omega) Try.underlying44 (by kernel_rfl)) ?_
  obtain ⟨x133, hx134⟩ := get_some (l := l7) (j := (c : Int).toNat) (by first | omega | (simp; omega) | simp)
  have := ok6.get hx134
  refine ES_val (.int .u32 x133) rfl (r_loadA rfl (T125.below B130) (int_get hx134) Try.underlying42 rfl) ?_
  have m135 := xr_lt32 (m := x131) (n := x133) (by omega) (by omega)
  refine ES_val (.int .u32 (xr x131 x133)) rfl (r_xori rfl rfl (by decide) (by omega) (by omega)) ?_
  have m136 := rl_lt (x := xr x131 x133) (p := 128) (by omega) (by decide)
  refine ES_call (.int .u32 (rl (xr x131 x133) 128)) [.int .u32 (xr x131 x133), .int .i64 7] rfl Try.func44 rfl nm44 rfl ((rot7 (xr x131 x133) w126 (by omega)).mono (fun v w1 h => ⟨h.1, h.2.symm⟩)) ?_
  refine ES_val (ptr q) rfl (r_nil rfl) ?_
  refine ES_val (ptr q ((b : Int).toNat)) rfl (r_indexA (i := b) rfl rfl (by omega) (by omega) Try.underlying44 (by kernel_rfl)) ?_
  refine ES_nil ?_
  refine EL_storeA (j := (b : Int).toNat) (u := .int .u32 (rl (xr x131 x133) 128)) rfl rfl (T125.below B130) (by first | (simp; omega) | simp) rfl (by kernel_rfl) ?_
  intro w137 A138 K139 z140
  have A138' : Arr w137 q 44 ((l7.set ((b : Int).toNat) (rl (xr x131 x133) 128)).map (Value.int .u32)) := by simpa [List.map_set] using A138
  have G141 : w.grownBy w137 (some q) := kept_trans G129 K139
  obtain ⟨l8, el8⟩ : ∃ z, z = sx l7 b.toNat c.toNat 128 := ⟨_, rfl⟩
  have eq7 : l7.set ((b : Int).toNat) (rl (xr x131 x133) 128) = l8 := by rw [el8]; subst_vars; exact sx_of hx132 hx134
  have ok7 : OK l8 := by rw [el8]; exact ok6.sx _ _ (by decide)
  have hl7 : l8.length = 16 := ok7.1
  have T142 : Arr w137 q 44 (l8.map (Value.int .u32)) := by rw [← eq7]; exact A138'
  refine EL_nil ?_
  refine fin0n rfl ⟨_, rfl, ?_⟩
  have eqr : l8 = qr l a.toNat b.toNat c.toNat d.toNat := by simp only [qr]; rw [el8, el7, el6, el5, el4, el3, el2, el1]
  exact ⟨rfl, by rw [← eqr]; exact T142, G141⟩

theorem rquarter_c (v0 : Value) (h : World) (l : List Int) (hok : OK l) (a b c d : Int) (ha : 0 ≤ a ∧ a < 16) (hb : 0 ≤ b ∧ b < 16) (hc : 0 ≤ c ∧ c < 16) (hd : 0 ≤ d ∧ d < 16) (w : World) (hh : h.heap.size ≤ w.heap.size) (H0 : w.ownsRow h.heap.size 3 1 v0 l.length (l.map (Value.int .i64))) : Ret Try.prog 39 [v0, .int .i64 a, .int .i64 b, .int .i64 c, .int .i64 d] w fun v w' => v = .tuple #[] ∧ w'.ownsRow h.heap.size 3 1 v0 (qr l a.toNat b.toNat c.toNat d.toNat).length ((qr l a.toNat b.toNat c.toNat d.toNat).map (Value.int .i64)) ∧ w.grownBy w' v0.ownBlock := by
  have hl := hok.1
  refine ret_E Try.func39 rfl Try.ntmps39 (by simp) ?_
  refine EC_seq ?_
  refine EC_tail 13 (by kernel_rfl) (by kernel_rfl) ?_
  intro w11 B12 z13
  have G14 : w.grownBy w11 v0.ownBlock := kept_below (kept_refl _ _) B12
  have B15 : Below w.heap.size w w11 := B12
  refine ES_val v0 rfl (r_move rfl) ?_
  refine ES_val (.int .i64 a) rfl (r_move rfl) ?_
  refine ES_val v0 rfl (r_move rfl) ?_
  refine ES_val (.int .i64 a) rfl (r_move rfl) ?_
  refine ES_val (.pointer (some (at_ v0 ((a : Int).toNat)))) rfl (r_index rfl ((own_row H0).below B15) rfl (by omega) (by first | omega | (simp; omega) | simp) Try.underlying66 (by kernel_rfl)) ?_
  obtain ⟨x16, hx17⟩ := get_some (l := l) (j := (a : Int).toNat) (by first | omega | (simp; omega) | simp)
  have := hok.get hx17
  refine ES_val (.int .i64 x16) rfl (r_load rfl (((own_row H0).below B15).cell (int_get hx17)) Try.underlying3 rfl) ?_
  refine ES_val v0 rfl (r_move rfl) ?_
  refine ES_val (.int .i64 b) rfl (r_move rfl) ?_
  refine ES_val (.pointer (some (at_ v0 ((b : Int).toNat)))) rfl (r_index rfl ((own_row H0).below B15) rfl (by omega) (by first | omega | (simp; omega) | simp) Try.underlying66 (by kernel_rfl)) ?_
  obtain ⟨x18, hx19⟩ := get_some (l := l) (j := (b : Int).toNat) (by first | omega | (simp; omega) | simp)
  have := hok.get hx19
  refine ES_val (.int .i64 x18) rfl (r_load rfl (((own_row H0).below B15).cell (int_get hx19)) Try.underlying3 rfl) ?_
  refine ES_int (x16 + x18) rfl (r_addi rfl rfl (by omega)) ?_
  intro x20 hx20
  refine ES_int (x20 % 4294967296) rfl (r_remi rfl rfl (by omega) (by omega)) ?_
  intro x21 hx21
  refine ES_val (.pointer (some (at_ v0 ((a : Int).toNat)))) rfl (r_index rfl ((own_row H0).below B15) rfl (by omega) (by first | omega | (simp; omega) | simp) Try.underlying66 (by kernel_rfl)) ?_
  refine ES_nil ?_
  refine EL_store (u := .int .i64 x21) rfl rfl (own_below H0 B15) (by first | omega | (simp; omega)) rfl (by kernel_rfl) ?_
  intro w22 O23 G24 z25
  have O23' := own_setF O23
  have G26 : w.grownBy w22 v0.ownBlock := kept_trans G14 G24
  obtain ⟨l1, el1⟩ : ∃ z, z = sa l a.toNat b.toNat := ⟨_, rfl⟩
  have eq0 : l.set ((a : Int).toNat) x21 = l1 := by rw [el1]; subst_vars; exact sa_of hx17 hx19
  have ok0 : OK l1 := by rw [el1]; exact hok.sa _ _
  have hl0 : l1.length = 16 := ok0.1
  have T28 := own_asF O23' eq0
  refine EL_nil ?_
  refine thn_n ?_
  refine EC_seq ?_
  refine EC_tail 13 (by kernel_rfl) (by kernel_rfl) ?_
  intro w29 B30 z31
  have G32 : w.grownBy w29 v0.ownBlock := kept_below G26 B30
  have B33 : Below w22.heap.size w22 w29 := B30
  refine ES_val v0 rfl (r_move rfl) ?_
  refine ES_val (.int .i64 d) rfl (r_move rfl) ?_
  refine ES_val v0 rfl (r_move rfl) ?_
  refine ES_val (.int .i64 d) rfl (r_move rfl) ?_
  refine ES_val (.pointer (some (at_ v0 ((d : Int).toNat)))) rfl (r_index rfl ((own_row T28).below B33) rfl (by omega) (by first | omega | (simp; omega) | simp) Try.underlying66 (by kernel_rfl)) ?_
  obtain ⟨x34, hx35⟩ := get_some (l := l1) (j := (d : Int).toNat) (by first | omega | (simp; omega) | simp)
  have := ok0.get hx35
  refine ES_val (.int .i64 x34) rfl (r_load rfl (((own_row T28).below B33).cell (int_get hx35)) Try.underlying3 rfl) ?_
  refine ES_val v0 rfl (r_move rfl) ?_
  refine ES_val (.int .i64 a) rfl (r_move rfl) ?_
  refine ES_val (.pointer (some (at_ v0 ((a : Int).toNat)))) rfl (r_index rfl ((own_row T28).below B33) rfl (by omega) (by first | omega | (simp; omega) | simp) Try.underlying66 (by kernel_rfl)) ?_
  obtain ⟨x36, hx37⟩ := get_some (l := l1) (j := (a : Int).toNat) (by first | omega | (simp; omega) | simp)
  have := ok0.get hx37
  refine ES_val (.int .i64 x36) rfl (r_load rfl (((own_row T28).below B33).cell (int_get hx37)) Try.underlying3 rfl) ?_
  have m38 := xr_lt32 (m := x34) (n := x36) (by omega) (by omega)
  refine ES_val (.int .i64 (xr x34 x36)) rfl (r_xori rfl rfl (by decide) (by omega) (by omega)) ?_
  have m39 := rl_lt (x := xr x34 x36) (p := 65536) (by omega) (by decide)
  refine ES_call (.int .i64 (rl (xr x34 x36) 65536)) [.int .i64 (xr x34 x36), .int .i64 16] rfl Try.func45 rfl nm45 rfl ((left16 (xr x34 x36) w29 (by omega)).mono (fun v w1 h => ⟨h.1, h.2.symm⟩)) ?_
  refine ES_val (.pointer (some (at_ v0 ((d : Int).toNat)))) rfl (r_index rfl ((own_row T28).below B33) rfl (by omega) (by first | omega | (simp; omega) | simp) Try.underlying66 (by kernel_rfl)) ?_
  refine ES_nil ?_
  refine EL_store (u := .int .i64 (rl (xr x34 x36) 65536)) rfl rfl (own_below T28 B33) (by first | omega | (simp; omega)) rfl (by kernel_rfl) ?_
  intro w40 O41 G42 z43
  have O41' := own_setF O41
  have G44 : w.grownBy w40 v0.ownBlock := kept_trans G32 G42
  obtain ⟨l2, el2⟩ : ∃ z, z = sx l1 d.toNat a.toNat 65536 := ⟨_, rfl⟩
  have eq1 : l1.set ((d : Int).toNat) (rl (xr x34 x36) 65536) = l2 := by rw [el2]; subst_vars; exact sx_of hx35 hx37
  have ok1 : OK l2 := by rw [el2]; exact ok0.sx _ _ (by decide)
  have hl1 : l2.length = 16 := ok1.1
  have T46 := own_asF O41' eq1
  refine EL_nil ?_
  refine thn_n ?_
  refine EC_seq ?_
  refine EC_tail 13 (by kernel_rfl) (by kernel_rfl) ?_
  intro w47 B48 z49
  have G50 : w.grownBy w47 v0.ownBlock := kept_below G44 B48
  have B51 : Below w40.heap.size w40 w47 := B48
  refine ES_val v0 rfl (r_move rfl) ?_
  refine ES_val (.int .i64 c) rfl (r_move rfl) ?_
  refine ES_val v0 rfl (r_move rfl) ?_
  refine ES_val (.int .i64 c) rfl (r_move rfl) ?_
  refine ES_val (.pointer (some (at_ v0 ((c : Int).toNat)))) rfl (r_index rfl ((own_row T46).below B51) rfl (by omega) (by first | omega | (simp; omega) | simp) Try.underlying66 (by kernel_rfl)) ?_
  obtain ⟨x52, hx53⟩ := get_some (l := l2) (j := (c : Int).toNat) (by first | omega | (simp; omega) | simp)
  have := ok1.get hx53
  refine ES_val (.int .i64 x52) rfl (r_load rfl (((own_row T46).below B51).cell (int_get hx53)) Try.underlying3 rfl) ?_
  refine ES_val v0 rfl (r_move rfl) ?_
  refine ES_val (.int .i64 d) rfl (r_move rfl) ?_
  refine ES_val (.pointer (some (at_ v0 ((d : Int).toNat)))) rfl (r_index rfl ((own_row T46).below B51) rfl (by omega) (by first | omega | (simp; omega) | simp) Try.underlying66 (by kernel_rfl)) ?_
  obtain ⟨x54, hx55⟩ := get_some (l := l2) (j := (d : Int).toNat) (by first | omega | (simp; omega) | simp)
  have := ok1.get hx55
  refine ES_val (.int .i64 x54) rfl (r_load rfl (((own_row T46).below B51).cell (int_get hx55)) Try.underlying3 rfl) ?_
  refine ES_int (x52 + x54) rfl (r_addi rfl rfl (by omega)) ?_
  intro x56 hx56
  refine ES_int (x56 % 4294967296) rfl (r_remi rfl rfl (by omega) (by omega)) ?_
  intro x57 hx57
  refine ES_val (.pointer (some (at_ v0 ((c : Int).toNat)))) rfl (r_index rfl ((own_row T46).below B51) rfl (by omega) (by first | omega | (simp; omega) | simp) Try.underlying66 (by kernel_rfl)) ?_
  refine ES_nil ?_
  refine EL_store (u := .int .i64 x57) rfl rfl (own_below T46 B51) (by first | omega | (simp; omega)) rfl (by kernel_rfl) ?_
  intro w58 O59 G60 z61
  have O59' := own_setF O59
  have G62 : w.grownBy w58 v0.ownBlock := kept_trans G50 G60
  obtain ⟨l3, el3⟩ : ∃ z, z = sa l2 c.toNat d.toNat := ⟨_, rfl⟩
  have eq2 : l2.set ((c : Int).toNat) x57 = l3 := by rw [el3]; subst_vars; exact sa_of hx53 hx55
  have ok2 : OK l3 := by rw [el3]; exact ok1.sa _ _
  have hl2 : l3.length = 16 := ok2.1
  have T64 := own_asF O59' eq2
  refine EL_nil ?_
  refine thn_n ?_
  refine EC_seq ?_
  refine EC_tail 13 (by kernel_rfl) (by kernel_rfl) ?_
  intro w65 B66 z67
  have G68 : w.grownBy w65 v0.ownBlock := kept_below G62 B66
  have B69 : Below w58.heap.size w58 w65 := B66
  refine ES_val v0 rfl (r_move rfl) ?_
  refine ES_val (.int .i64 b) rfl (r_move rfl) ?_
  refine ES_val v0 rfl (r_move rfl) ?_
  refine ES_val (.int .i64 b) rfl (r_move rfl) ?_
  refine ES_val (.pointer (some (at_ v0 ((b : Int).toNat)))) rfl (r_index rfl ((own_row T64).below B69) rfl (by omega) (by first | omega | (simp; omega) | simp) Try.underlying66 (by kernel_rfl)) ?_
  obtain ⟨x70, hx71⟩ := get_some (l := l3) (j := (b : Int).toNat) (by first | omega | (simp; omega) | simp)
  have := ok2.get hx71
  refine ES_val (.int .i64 x70) rfl (r_load rfl (((own_row T64).below B69).cell (int_get hx71)) Try.underlying3 rfl) ?_
  refine ES_val v0 rfl (r_move rfl) ?_
  refine ES_val (.int .i64 c) rfl (r_move rfl) ?_
  refine ES_val (.pointer (some (at_ v0 ((c : Int).toNat)))) rfl (r_index rfl ((own_row T64).below B69) rfl (by omega) (by first | omega | (simp; omega) | simp) Try.underlying66 (by kernel_rfl)) ?_
  obtain ⟨x72, hx73⟩ := get_some (l := l3) (j := (c : Int).toNat) (by first | omega | (simp; omega) | simp)
  have := ok2.get hx73
  refine ES_val (.int .i64 x72) rfl (r_load rfl (((own_row T64).below B69).cell (int_get hx73)) Try.underlying3 rfl) ?_
  have m74 := xr_lt32 (m := x70) (n := x72) (by omega) (by omega)
  refine ES_val (.int .i64 (xr x70 x72)) rfl (r_xori rfl rfl (by decide) (by omega) (by omega)) ?_
  have m75 := rl_lt (x := xr x70 x72) (p := 4096) (by omega) (by decide)
  refine ES_call (.int .i64 (rl (xr x70 x72) 4096)) [.int .i64 (xr x70 x72), .int .i64 12] rfl Try.func45 rfl nm45 rfl ((left12 (xr x70 x72) w65 (by omega)).mono (fun v w1 h => ⟨h.1, h.2.symm⟩)) ?_
  refine ES_val (.pointer (some (at_ v0 ((b : Int).toNat)))) rfl (r_index rfl ((own_row T64).below B69) rfl (by omega) (by first | omega | (simp; omega) | simp) Try.underlying66 (by kernel_rfl)) ?_
  refine ES_nil ?_
  refine EL_store (u := .int .i64 (rl (xr x70 x72) 4096)) rfl rfl (own_below T64 B69) (by first | omega | (simp; omega)) rfl (by kernel_rfl) ?_
  intro w76 O77 G78 z79
  have O77' := own_setF O77
  have G80 : w.grownBy w76 v0.ownBlock := kept_trans G68 G78
  obtain ⟨l4, el4⟩ : ∃ z, z = sx l3 b.toNat c.toNat 4096 := ⟨_, rfl⟩
  have eq3 : l3.set ((b : Int).toNat) (rl (xr x70 x72) 4096) = l4 := by rw [el4]; subst_vars; exact sx_of hx71 hx73
  have ok3 : OK l4 := by rw [el4]; exact ok2.sx _ _ (by decide)
  have hl3 : l4.length = 16 := ok3.1
  have T82 := own_asF O77' eq3
  refine EL_nil ?_
  refine thn_n ?_
  refine EC_seq ?_
  refine EC_tail 13 (by kernel_rfl) (by kernel_rfl) ?_
  intro w83 B84 z85
  have G86 : w.grownBy w83 v0.ownBlock := kept_below G80 B84
  have B87 : Below w76.heap.size w76 w83 := B84
  refine ES_val v0 rfl (r_move rfl) ?_
  refine ES_val (.int .i64 a) rfl (r_move rfl) ?_
  refine ES_val v0 rfl (r_move rfl) ?_
  refine ES_val (.int .i64 a) rfl (r_move rfl) ?_
  refine ES_val (.pointer (some (at_ v0 ((a : Int).toNat)))) rfl (r_index rfl ((own_row T82).below B87) rfl (by omega) (by first | omega | (simp; omega) | simp) Try.underlying66 (by kernel_rfl)) ?_
  obtain ⟨x88, hx89⟩ := get_some (l := l4) (j := (a : Int).toNat) (by first | omega | (simp; omega) | simp)
  have := ok3.get hx89
  refine ES_val (.int .i64 x88) rfl (r_load rfl (((own_row T82).below B87).cell (int_get hx89)) Try.underlying3 rfl) ?_
  refine ES_val v0 rfl (r_move rfl) ?_
  refine ES_val (.int .i64 b) rfl (r_move rfl) ?_
  refine ES_val (.pointer (some (at_ v0 ((b : Int).toNat)))) rfl (r_index rfl ((own_row T82).below B87) rfl (by omega) (by first | omega | (simp; omega) | simp) Try.underlying66 (by kernel_rfl)) ?_
  obtain ⟨x90, hx91⟩ := get_some (l := l4) (j := (b : Int).toNat) (by first | omega | (simp; omega) | simp)
  have := ok3.get hx91
  refine ES_val (.int .i64 x90) rfl (r_load rfl (((own_row T82).below B87).cell (int_get hx91)) Try.underlying3 rfl) ?_
  refine ES_int (x88 + x90) rfl (r_addi rfl rfl (by omega)) ?_
  intro x92 hx92
  refine ES_int (x92 % 4294967296) rfl (r_remi rfl rfl (by omega) (by omega)) ?_
  intro x93 hx93
  refine ES_val (.pointer (some (at_ v0 ((a : Int).toNat)))) rfl (r_index rfl ((own_row T82).below B87) rfl (by omega) (by first | omega | (simp; omega) | simp) Try.underlying66 (by kernel_rfl)) ?_
  refine ES_nil ?_
  refine EL_store (u := .int .i64 x93) rfl rfl (own_below T82 B87) (by first | omega | (simp; omega)) rfl (by kernel_rfl) ?_
  intro w94 O95 G96 z97
  have O95' := own_setF O95
  have G98 : w.grownBy w94 v0.ownBlock := kept_trans G86 G96
  obtain ⟨l5, el5⟩ : ∃ z, z = sa l4 a.toNat b.toNat := ⟨_, rfl⟩
  have eq4 : l4.set ((a : Int).toNat) x93 = l5 := by rw [el5]; subst_vars; exact sa_of hx89 hx91
  have ok4 : OK l5 := by rw [el5]; exact ok3.sa _ _
  have hl4 : l5.length = 16 := ok4.1
  have T100 := own_asF O95' eq4
  refine EL_nil ?_
  refine thn_n ?_
  refine EC_seq ?_
  refine EC_tail 13 (by kernel_rfl) (by kernel_rfl) ?_
  intro w101 B102 z103
  have G104 : w.grownBy w101 v0.ownBlock := kept_below G98 B102
  have B105 : Below w94.heap.size w94 w101 := B102
  refine ES_val v0 rfl (r_move rfl) ?_
  refine ES_val (.int .i64 d) rfl (r_move rfl) ?_
  refine ES_val v0 rfl (r_move rfl) ?_
  refine ES_val (.int .i64 d) rfl (r_move rfl) ?_
  refine ES_val (.pointer (some (at_ v0 ((d : Int).toNat)))) rfl (r_index rfl ((own_row T100).below B105) rfl (by omega) (by first | omega | (simp; omega) | simp) Try.underlying66 (by kernel_rfl)) ?_
  obtain ⟨x106, hx107⟩ := get_some (l := l5) (j := (d : Int).toNat) (by first | omega | (simp; omega) | simp)
  have := ok4.get hx107
  refine ES_val (.int .i64 x106) rfl (r_load rfl (((own_row T100).below B105).cell (int_get hx107)) Try.underlying3 rfl) ?_
  refine ES_val v0 rfl (r_move rfl) ?_
  refine ES_val (.int .i64 a) rfl (r_move rfl) ?_
  refine ES_val (.pointer (some (at_ v0 ((a : Int).toNat)))) rfl (r_index rfl ((own_row T100).below B105) rfl (by omega) (by first | omega | (simp; omega) | simp) Try.underlying66 (by kernel_rfl)) ?_
  obtain ⟨x108, hx109⟩ := get_some (l := l5) (j := (a : Int).toNat) (by first | omega | (simp; omega) | simp)
  have := ok4.get hx109
  refine ES_val (.int .i64 x108) rfl (r_load rfl (((own_row T100).below B105).cell (int_get hx109)) Try.underlying3 rfl) ?_
  have m110 := xr_lt32 (m := x106) (n := x108) (by omega) (by omega)
  refine ES_val (.int .i64 (xr x106 x108)) rfl (r_xori rfl rfl (by decide) (by omega) (by omega)) ?_
  have m111 := rl_lt (x := xr x106 x108) (p := 256) (by omega) (by decide)
  refine ES_call (.int .i64 (rl (xr x106 x108) 256)) [.int .i64 (xr x106 x108), .int .i64 8] rfl Try.func45 rfl nm45 rfl ((left8 (xr x106 x108) w101 (by omega)).mono (fun v w1 h => ⟨h.1, h.2.symm⟩)) ?_
  refine ES_val (.pointer (some (at_ v0 ((d : Int).toNat)))) rfl (r_index rfl ((own_row T100).below B105) rfl (by omega) (by first | omega | (simp; omega) | simp) Try.underlying66 (by kernel_rfl)) ?_
  refine ES_nil ?_
  refine EL_store (u := .int .i64 (rl (xr x106 x108) 256)) rfl rfl (own_below T100 B105) (by first | omega | (simp; omega)) rfl (by kernel_rfl) ?_
  intro w112 O113 G114 z115
  have O113' := own_setF O113
  have G116 : w.grownBy w112 v0.ownBlock := kept_trans G104 G114
  obtain ⟨l6, el6⟩ : ∃ z, z = sx l5 d.toNat a.toNat 256 := ⟨_, rfl⟩
  have eq5 : l5.set ((d : Int).toNat) (rl (xr x106 x108) 256) = l6 := by rw [el6]; subst_vars; exact sx_of hx107 hx109
  have ok5 : OK l6 := by rw [el6]; exact ok4.sx _ _ (by decide)
  have hl5 : l6.length = 16 := ok5.1
  have T118 := own_asF O113' eq5
  refine EL_nil ?_
  refine thn_n ?_
  refine EC_seq ?_
  refine EC_tail 13 (by kernel_rfl) (by kernel_rfl) ?_
  intro w119 B120 z121
  have G122 : w.grownBy w119 v0.ownBlock := kept_below G116 B120
  have B123 : Below w112.heap.size w112 w119 := B120
  refine ES_val v0 rfl (r_move rfl) ?_
  refine ES_val (.int .i64 c) rfl (r_move rfl) ?_
  refine ES_val v0 rfl (r_move rfl) ?_
  refine ES_val (.int .i64 c) rfl (r_move rfl) ?_
  refine ES_val (.pointer (some (at_ v0 ((c : Int).toNat)))) rfl (r_index rfl ((own_row T118).below B123) rfl (by omega) (by first | omega | (simp; omega) | simp) Try.underlying66 (by kernel_rfl)) ?_
  obtain ⟨x124, hx125⟩ := get_some (l := l6) (j := (c : Int).toNat) (by first | omega | (simp; omega) | simp)
  have := ok5.get hx125
  refine ES_val (.int .i64 x124) rfl (r_load rfl (((own_row T118).below B123).cell (int_get hx125)) Try.underlying3 rfl) ?_
  refine ES_val v0 rfl (r_move rfl) ?_
  refine ES_val (.int .i64 d) rfl (r_move rfl) ?_
  refine ES_val (.pointer (some (at_ v0 ((d : Int).toNat)))) rfl (r_index rfl ((own_row T118).below B123) rfl (by omega) (by first | omega | (simp; omega) | simp) Try.underlying66 (by kernel_rfl)) ?_
  obtain ⟨x126, hx127⟩ := get_some (l := l6) (j := (d : Int).toNat) (by first | omega | (simp; omega) | simp)
  have := ok5.get hx127
  refine ES_val (.int .i64 x126) rfl (r_load rfl (((own_row T118).below B123).cell (int_get hx127)) Try.underlying3 rfl) ?_
  refine ES_int (x124 + x126) rfl (r_addi rfl rfl (by omega)) ?_
  intro x128 hx128
  refine ES_int (x128 % 4294967296) rfl (r_remi rfl rfl (by omega) (by omega)) ?_
  intro x129 hx129
  refine ES_val (.pointer (some (at_ v0 ((c : Int).toNat)))) rfl (r_index rfl ((own_row T118).below B123) rfl (by omega) (by first | omega | (simp; omega) | simp) Try.underlying66 (by kernel_rfl)) ?_
  refine ES_nil ?_
  refine EL_store (u := .int .i64 x129) rfl rfl (own_below T118 B123) (by first | omega | (simp; omega)) rfl (by kernel_rfl) ?_
  intro w130 O131 G132 z133
  have O131' := own_setF O131
  have G134 : w.grownBy w130 v0.ownBlock := kept_trans G122 G132
  obtain ⟨l7, el7⟩ : ∃ z, z = sa l6 c.toNat d.toNat := ⟨_, rfl⟩
  have eq6 : l6.set ((c : Int).toNat) x129 = l7 := by rw [el7]; subst_vars; exact sa_of hx125 hx127
  have ok6 : OK l7 := by rw [el7]; exact ok5.sa _ _
  have hl6 : l7.length = 16 := ok6.1
  have T136 := own_asF O131' eq6
  refine EL_nil ?_
  refine thn_n ?_
  refine EC_tail 13 (by kernel_rfl) (by kernel_rfl) ?_
  intro w137 B138 z139
  have G140 : w.grownBy w137 v0.ownBlock := kept_below G134 B138
  have B141 : Below w130.heap.size w130 w137 := B138
  refine ES_val v0 rfl (r_move rfl) ?_
  refine ES_val (.int .i64 b) rfl (r_move rfl) ?_
  refine ES_val v0 rfl (r_move rfl) ?_
  refine ES_val (.int .i64 b) rfl (r_move rfl) ?_
  refine ES_val (.pointer (some (at_ v0 ((b : Int).toNat)))) rfl (r_index rfl ((own_row T136).below B141) rfl (by omega) (by first | omega | (simp; omega) | simp) Try.underlying66 (by kernel_rfl)) ?_
  obtain ⟨x142, hx143⟩ := get_some (l := l7) (j := (b : Int).toNat) (by first | omega | (simp; omega) | simp)
  have := ok6.get hx143
  refine ES_val (.int .i64 x142) rfl (r_load rfl (((own_row T136).below B141).cell (int_get hx143)) Try.underlying3 rfl) ?_
  refine ES_val v0 rfl (r_move rfl) ?_
  refine ES_val (.int .i64 c) rfl (r_move rfl) ?_
  refine ES_val (.pointer (some (at_ v0 ((c : Int).toNat)))) rfl (r_index rfl ((own_row T136).below B141) rfl (by omega) (by first | omega | (simp; omega) | simp) Try.underlying66 (by kernel_rfl)) ?_
  obtain ⟨x144, hx145⟩ := get_some (l := l7) (j := (c : Int).toNat) (by first | omega | (simp; omega) | simp)
  have := ok6.get hx145
  refine ES_val (.int .i64 x144) rfl (r_load rfl (((own_row T136).below B141).cell (int_get hx145)) Try.underlying3 rfl) ?_
  have m146 := xr_lt32 (m := x142) (n := x144) (by omega) (by omega)
  refine ES_val (.int .i64 (xr x142 x144)) rfl (r_xori rfl rfl (by decide) (by omega) (by omega)) ?_
  have m147 := rl_lt (x := xr x142 x144) (p := 128) (by omega) (by decide)
  refine ES_call (.int .i64 (rl (xr x142 x144) 128)) [.int .i64 (xr x142 x144), .int .i64 7] rfl Try.func45 rfl nm45 rfl ((left7 (xr x142 x144) w137 (by omega)).mono (fun v w1 h => ⟨h.1, h.2.symm⟩)) ?_
  refine ES_val (.pointer (some (at_ v0 ((b : Int).toNat)))) rfl (r_index rfl ((own_row T136).below B141) rfl (by omega) (by first | omega | (simp; omega) | simp) Try.underlying66 (by kernel_rfl)) ?_
  refine ES_nil ?_
  refine EL_store (u := .int .i64 (rl (xr x142 x144) 128)) rfl rfl (own_below T136 B141) (by first | omega | (simp; omega)) rfl (by kernel_rfl) ?_
  intro w148 O149 G150 z151
  have O149' := own_setF O149
  have G152 : w.grownBy w148 v0.ownBlock := kept_trans G140 G150
  obtain ⟨l8, el8⟩ : ∃ z, z = sx l7 b.toNat c.toNat 128 := ⟨_, rfl⟩
  have eq7 : l7.set ((b : Int).toNat) (rl (xr x142 x144) 128) = l8 := by rw [el8]; subst_vars; exact sx_of hx143 hx145
  have ok7 : OK l8 := by rw [el8]; exact ok6.sx _ _ (by decide)
  have hl7 : l8.length = 16 := ok7.1
  have T154 := own_asF O149' eq7
  refine EL_nil ?_
  refine fin0n rfl ⟨_, rfl, ?_⟩
  have eqr : l8 = qr l a.toNat b.toNat c.toNat d.toNat := by simp only [qr]; rw [el8, el7, el6, el5, el4, el3, el2, el1]
  exact ⟨rfl, own_asF T154 eqr, G152⟩

end Go.Proofs.Ytlhaojpkejpgfaa
