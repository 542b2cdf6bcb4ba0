import Derived.Test.YtlhaojpkejpgfaaPol
set_option linter.unusedVariables false
set_option linter.unusedSimpArgs false
namespace Go.Proofs.Ytlhaojpkejpgfaa
open Go.RowKit Go.Ecal

set_option maxRecDepth 100000 in
set_option maxHeartbeats 4000000 in
theorem pget_c (v0 : Value) (b : List UInt8) (w : World) (H0 : Bs w v0 b) (hb : b.length ≤ 17) : Ret Try.prog 24 [v0] w fun v w' => v = .agg ((wof (num b)).map (Value.int .u64)).toArray ∧ Below w.heap.size w w' := by
  refine ret_E Try.func24 rfl Try.ntmps24 (by simp) ?_
  refine EC_seq ?_
  refine EC_reg ?_
  refine EL_alloc (z := .agg #[.int .u64 0, .int .u64 0, .int .u64 0]) (List.replicate 3 (.int .u64 0)) rfl (by kernel_rfl) rfl ?_
  intro b11 w12 k13 A14 B15 z16
  have B17 : Below w.heap.size w w12 := B15
  have A14' : Arr w12 b11 49 ((List.replicate 3 0).map (Value.int .u64)) := A14
  refine EL_nil ?_
  refine thn_n ?_
  refine EC_seq ?_
  refine EC_reg ?_
  refine EL_alloc (z := .agg #[.int .u64 0, .int .u64 0, .int .u64 0]) (List.replicate 3 (.int .u64 0)) rfl (by kernel_rfl) rfl ?_
  intro b18 w19 k20 A21 B22 z23
  have ne24 : b11 < b18 := by have := (A14').lt; omega
  have B25 : Below w.heap.size w w19 := below_full B17 B17.size B22
  have B26 : Below w12.heap.size w12 w19 := B22
  have A21' : Arr w19 b18 49 ((List.replicate 3 0).map (Value.int .u64)) := A21
  refine EL_nil ?_
  refine thn_n ?_
  refine EC_seq ?_
  refine EC_seq ?_
  refine EC_reg ?_
  refine EL_val v0 w19 rfl (r_move rfl) ?_
  refine EL_val (.int .i64 (b.length : Int)) w19 rfl (lenB (r_len rfl (H0.below B25) Try.underlying22)) ?_
  refine EL_val (.int .i64 0) w19 rfl (r_move rfl) ?_
  refine EL_nil ?_
  refine thn_n ?_
  refine EC_block ?_
  refine EC_for 18 ?_
  refine U_step ?_
  refine EC_seq ?_
  refine EC_reg ?_
  refine EL_val (.bool (decide (0 < (b.length : Int)))) w19 rfl (r_lss rfl rfl) ?_
  refine EL_nil ?_
  refine thn_n ?_
  refine EC_seq ?_
  refine EC_if (p := 0 < (b.length : Int)) rfl (fun h27 => ?_) (fun h27 => ?_)
  · refine EC_skip ?_
    refine thn_n ?_
    refine EC_seq ?_
    refine EC_block ?_
    refine EC_seq ?_
    refine EC_reg ?_
    refine EL_val (.int .i64 0) w19 rfl (r_move rfl) ?_
    refine EL_val (.pointer (some (at_ v0 ((0 : Int).toNat)))) w19 rfl (r_index rfl (H0.below B25) rfl (by omega) (by first | omega | (simp; omega) | simp) Try.underlying22 (by kernel_rfl)) ?_
    obtain ⟨b28, hb29⟩ := get_some (l := b) (j := (0 : Int).toNat) (by omega)
    have hb30 := b28.toNat_lt
    refine EL_val (.int .u8 (b28.toNat : Int)) w19 rfl (r_load rfl ((H0.below B25).cell (bs_get hb29)) Try.underlying5 rfl) ?_
    refine EL_val (.int .i64 0) w19 rfl (r_assign rfl) ?_
    refine EL_val (.int .u8 (b28.toNat : Int)) w19 rfl (r_assign rfl) ?_
    refine EL_nil ?_
    refine thn_n ?_
    refine EC_heads 12 (by kernel_rfl) ?_
    intro w31 B32 z33
    have B34 : Below w.heap.size w w31 := below_full B25 B25.size B32
    have B35 : Below w12.heap.size w12 w31 := below_full B26 B26.size B32
    have B36 : Below w19.heap.size w19 w31 := B32
    refine EG_take 0 rfl (by kernel_rfl) (by kernel_rfl) (by kernel_rfl) rfl 40 (by kernel_rfl) (.int .i64 0) rfl (r_move rfl) rfl ?_
    refine EG_take 1 rfl (by kernel_rfl) (by kernel_rfl) (by kernel_rfl) rfl 40 (by kernel_rfl) (.int .i64 0) rfl (r_asn (by kernel_rfl) (r_quo rfl rfl (by decide))) rfl ?_
    refine EG_take 2 rfl (by kernel_rfl) (by kernel_rfl) (by kernel_rfl) rfl 40 (by kernel_rfl) (ptr b18 0) rfl (r_indexA (i := 0) rfl rfl (by omega) (by omega) Try.underlying49 (by kernel_rfl)) rfl ?_
    refine EG_take 3 rfl (by kernel_rfl) (by kernel_rfl) (by kernel_rfl) rfl 40 (by kernel_rfl) (.int .u64 0) rfl (r_loadA rfl (A21'.below B36) (u := .int .u64 0) rfl Try.underlying47 rfl) rfl ?_
    refine EG_take 4 rfl (by kernel_rfl) (by kernel_rfl) (by kernel_rfl) rfl 40 (by kernel_rfl) (.int .u8 (b28.toNat : Int)) rfl (r_move rfl) rfl ?_
    refine EG_take 5 rfl (by kernel_rfl) (by kernel_rfl) (by kernel_rfl) rfl 40 (by kernel_rfl) (.int .u64 (b28.toNat : Int)) rfl (r_asn (by omega) (r_convq 5 47 rfl Try.underlying5 Try.underlying47)) rfl ?_
    refine EG_take 6 rfl (by kernel_rfl) (by kernel_rfl) (by kernel_rfl) rfl 40 (by kernel_rfl) (.int .i64 0) rfl (r_move rfl) rfl ?_
    refine EG_take 7 rfl (by kernel_rfl) (by kernel_rfl) (by kernel_rfl) rfl 40 (by kernel_rfl) (.int .i64 0) rfl (r_asn (by kernel_rfl) (r_rem rfl rfl (by decide))) rfl ?_
    refine EG_take 8 rfl (by kernel_rfl) (by kernel_rfl) (by kernel_rfl) rfl 40 (by kernel_rfl) (.int .i64 0) rfl (r_asn (by kernel_rfl) (r_mul rfl rfl)) rfl ?_
    obtain ⟨x37, hx37⟩ : ∃ z : Int, z = (b28.toNat : Int) * 1 % 18446744073709551616 := ⟨_, rfl⟩
    refine EG_take 9 rfl (by kernel_rfl) (by kernel_rfl) (by kernel_rfl) rfl 40 (by kernel_rfl) (.int .u64 x37) rfl (by rw [hx37]; exact r_shlq (n := 0) rfl rfl rfl (by decide) (by decide)) rfl ?_
    obtain ⟨x38, hx38⟩ : ∃ z : Int, z = 0 + x37 := ⟨_, rfl⟩
    refine EG_take 10 rfl (by kernel_rfl) (by kernel_rfl) (by kernel_rfl) rfl 40 (by kernel_rfl) (.int .u64 x38) rfl (by rw [hx38]; exact r_orq b28.toNat (0 : Int).toNat 0 rfl rfl (by omega) (by omega) (by omega) (by omega)) rfl ?_
    refine EG_take 11 rfl (by kernel_rfl) (by kernel_rfl) (by kernel_rfl) rfl 40 (by kernel_rfl) (ptr b18 0) rfl (r_indexA (i := 0) rfl rfl (by omega) (by omega) Try.underlying49 (by kernel_rfl)) rfl ?_
    refine EG_one 12 rfl (by kernel_rfl) (by kernel_rfl) ?_
    refine EL_storeA (j := 0) (u := .int .u64 x38) rfl rfl (A21'.below B36) (by first | (simp; omega) | simp) rfl (by kernel_rfl) ?_
    intro w39 A40 K41 z42
    have A40' : Arr w39 b18 49 ((([x38, 0, 0] : List Int)).map (Value.int .u64)) := A40
    have B43 : Below w.heap.size w w39 := below_kept B34 K41 (Nat.le_trans B17.size (Nat.le_of_eq k20.symm)) (B34.size)
    have B44 : Below w12.heap.size w12 w39 := below_kept B35 K41 (Nat.le_trans (Nat.le_refl _) (Nat.le_of_eq k20.symm)) (B35.size)
    have A45 : Arr w39 b11 49 ((List.replicate 3 0).map (Value.int .u64)) := (A14'.below B35).grew K41 (by simp; omega)
    refine EL_nil ?_
    refine ⟨rfl, ?_⟩
    refine EG_done (by kernel_rfl) ?_
    refine inB_n ?_
    refine thn_n ?_
    refine EC_reg ?_
    refine EL_val (.int .i64 1) w39 rfl (r_asn (by kernel_rfl) (r_add rfl rfl)) ?_
    refine EL_val (.int .i64 1) w39 rfl (r_move rfl) ?_
    refine EL_nil ?_
    refine thn_n ?_
    refine U_step ?_
    refine EC_seq ?_
    refine EC_reg ?_
    refine EL_val (.bool (decide (1 < (b.length : Int)))) w39 rfl (r_lss rfl rfl) ?_
    refine EL_nil ?_
    refine thn_n ?_
    refine EC_seq ?_
    refine EC_if (p := 1 < (b.length : Int)) rfl (fun h46 => ?_) (fun h46 => ?_)
    · refine EC_skip ?_
      refine thn_n ?_
      refine EC_seq ?_
      refine EC_block ?_
      refine EC_seq ?_
      refine EC_reg ?_
      refine EL_val (.int .i64 1) w39 rfl (r_move rfl) ?_
      refine EL_val (.pointer (some (at_ v0 ((1 : Int).toNat)))) w39 rfl (r_index rfl (H0.below B43) rfl (by omega) (by first | omega | (simp; omega) | simp) Try.underlying22 (by kernel_rfl)) ?_
      obtain ⟨b47, hb48⟩ := get_some (l := b) (j := (1 : Int).toNat) (by omega)
      have hb49 := b47.toNat_lt
      refine EL_val (.int .u8 (b47.toNat : Int)) w39 rfl (r_load rfl ((H0.below B43).cell (bs_get hb48)) Try.underlying5 rfl) ?_
      refine EL_val (.int .i64 1) w39 rfl (r_assign rfl) ?_
      refine EL_val (.int .u8 (b47.toNat : Int)) w39 rfl (r_assign rfl) ?_
      refine EL_nil ?_
      refine thn_n ?_
      refine EC_heads 12 (by kernel_rfl) ?_
      intro w50 B51 z52
      have B53 : Below w.heap.size w w50 := below_full B43 B43.size B51
      have B54 : Below w12.heap.size w12 w50 := below_full B44 B44.size B51
      have B55 : Below w39.heap.size w39 w50 := B51
      refine EG_take 0 rfl (by kernel_rfl) (by kernel_rfl) (by kernel_rfl) rfl 40 (by kernel_rfl) (.int .i64 1) rfl (r_move rfl) rfl ?_
      refine EG_take 1 rfl (by kernel_rfl) (by kernel_rfl) (by kernel_rfl) rfl 40 (by kernel_rfl) (.int .i64 0) rfl (r_asn (by kernel_rfl) (r_quo rfl rfl (by decide))) rfl ?_
      refine EG_take 2 rfl (by kernel_rfl) (by kernel_rfl) (by kernel_rfl) rfl 40 (by kernel_rfl) (ptr b18 0) rfl (r_indexA (i := 0) rfl rfl (by omega) (by omega) Try.underlying49 (by kernel_rfl)) rfl ?_
      refine EG_take 3 rfl (by kernel_rfl) (by kernel_rfl) (by kernel_rfl) rfl 40 (by kernel_rfl) (.int .u64 x38) rfl (r_loadA rfl (A40'.below B55) (u := .int .u64 x38) rfl Try.underlying47 rfl) rfl ?_
      refine EG_take 4 rfl (by kernel_rfl) (by kernel_rfl) (by kernel_rfl) rfl 40 (by kernel_rfl) (.int .u8 (b47.toNat : Int)) rfl (r_move rfl) rfl ?_
      refine EG_take 5 rfl (by kernel_rfl) (by kernel_rfl) (by kernel_rfl) rfl 40 (by kernel_rfl) (.int .u64 (b47.toNat : Int)) rfl (r_asn (by omega) (r_convq 5 47 rfl Try.underlying5 Try.underlying47)) rfl ?_
      refine EG_take 6 rfl (by kernel_rfl) (by kernel_rfl) (by kernel_rfl) rfl 40 (by kernel_rfl) (.int .i64 1) rfl (r_move rfl) rfl ?_
      refine EG_take 7 rfl (by kernel_rfl) (by kernel_rfl) (by kernel_rfl) rfl 40 (by kernel_rfl) (.int .i64 1) rfl (r_asn (by kernel_rfl) (r_rem rfl rfl (by decide))) rfl ?_
      refine EG_take 8 rfl (by kernel_rfl) (by kernel_rfl) (by kernel_rfl) rfl 40 (by kernel_rfl) (.int .i64 8) rfl (r_asn (by kernel_rfl) (r_mul rfl rfl)) rfl ?_
      obtain ⟨x56, hx56⟩ : ∃ z : Int, z = (b47.toNat : Int) * 256 % 18446744073709551616 := ⟨_, rfl⟩
      refine EG_take 9 rfl (by kernel_rfl) (by kernel_rfl) (by kernel_rfl) rfl 40 (by kernel_rfl) (.int .u64 x56) rfl (by rw [hx56]; exact r_shlq (n := 8) rfl rfl rfl (by decide) (by decide)) rfl ?_
      obtain ⟨x57, hx57⟩ : ∃ z : Int, z = x38 + x56 := ⟨_, rfl⟩
      refine EG_take 10 rfl (by kernel_rfl) (by kernel_rfl) (by kernel_rfl) rfl 40 (by kernel_rfl) (.int .u64 x57) rfl (by rw [hx57]; exact r_orq b47.toNat (x38 : Int).toNat 8 rfl rfl (by omega) (by omega) (by omega) (by omega)) rfl ?_
      refine EG_take 11 rfl (by kernel_rfl) (by kernel_rfl) (by kernel_rfl) rfl 40 (by kernel_rfl) (ptr b18 0) rfl (r_indexA (i := 0) rfl rfl (by omega) (by omega) Try.underlying49 (by kernel_rfl)) rfl ?_
      refine EG_one 12 rfl (by kernel_rfl) (by kernel_rfl) ?_
      refine EL_storeA (j := 0) (u := .int .u64 x57) rfl rfl (A40'.below B55) (by first | (simp; omega) | simp) rfl (by kernel_rfl) ?_
      intro w58 A59 K60 z61
      have A59' : Arr w58 b18 49 ((([x57, 0, 0] : List Int)).map (Value.int .u64)) := A59
      have B62 : Below w.heap.size w w58 := below_kept B53 K60 (Nat.le_trans B17.size (Nat.le_of_eq k20.symm)) (B53.size)
      have B63 : Below w12.heap.size w12 w58 := below_kept B54 K60 (Nat.le_trans (Nat.le_refl _) (Nat.le_of_eq k20.symm)) (B54.size)
      have A64 : Arr w58 b11 49 ((List.replicate 3 0).map (Value.int .u64)) := (A45.below B55).grew K60 (by simp; omega)
      refine EL_nil ?_
      refine ⟨rfl, ?_⟩
      refine EG_done (by kernel_rfl) ?_
      refine inB_n ?_
      refine thn_n ?_
      refine EC_reg ?_
      refine EL_val (.int .i64 2) w58 rfl (r_asn (by kernel_rfl) (r_add rfl rfl)) ?_
      refine EL_val (.int .i64 2) w58 rfl (r_move rfl) ?_
      refine EL_nil ?_
      refine thn_n ?_
      refine U_step ?_
      refine EC_seq ?_
      refine EC_reg ?_
      refine EL_val (.bool (decide (2 < (b.length : Int)))) w58 rfl (r_lss rfl rfl) ?_
      refine EL_nil ?_
      refine thn_n ?_
      refine EC_seq ?_
      refine EC_if (p := 2 < (b.length : Int)) rfl (fun h65 => ?_) (fun h65 => ?_)
      · refine EC_skip ?_
        refine thn_n ?_
        refine EC_seq ?_
        refine EC_block ?_
        refine EC_seq ?_
        refine EC_reg ?_
        refine EL_val (.int .i64 2) w58 rfl (r_move rfl) ?_
        refine EL_val (.pointer (some (at_ v0 ((2 : Int).toNat)))) w58 rfl (r_index rfl (H0.below B62) rfl (by omega) (by first | omega | (simp; omega) | simp) Try.underlying22 (by kernel_rfl)) ?_
        obtain ⟨b66, hb67⟩ := get_some (l := b) (j := (2 : Int).toNat) (by omega)
        have hb68 := b66.toNat_lt
        refine EL_val (.int .u8 (b66.toNat : Int)) w58 rfl (r_load rfl ((H0.below B62).cell (bs_get hb67)) Try.underlying5 rfl) ?_
        refine EL_val (.int .i64 2) w58 rfl (r_assign rfl) ?_
        refine EL_val (.int .u8 (b66.toNat : Int)) w58 rfl (r_assign rfl) ?_
        refine EL_nil ?_
        refine thn_n ?_
        refine EC_heads 12 (by kernel_rfl) ?_
        intro w69 B70 z71
        have B72 : Below w.heap.size w w69 := below_full B62 B62.size B70
        have B73 : Below w12.heap.size w12 w69 := below_full B63 B63.size B70
        have B74 : Below w58.heap.size w58 w69 := B70
        refine EG_take 0 rfl (by kernel_rfl) (by kernel_rfl) (by kernel_rfl) rfl 40 (by kernel_rfl) (.int .i64 2) rfl (r_move rfl) rfl ?_
        refine EG_take 1 rfl (by kernel_rfl) (by kernel_rfl) (by kernel_rfl) rfl 40 (by kernel_rfl) (.int .i64 0) rfl (r_asn (by kernel_rfl) (r_quo rfl rfl (by decide))) rfl ?_
        refine EG_take 2 rfl (by kernel_rfl) (by kernel_rfl) (by kernel_rfl) rfl 40 (by kernel_rfl) (ptr b18 0) rfl (r_indexA (i := 0) rfl rfl (by omega) (by omega) Try.underlying49 (by kernel_rfl)) rfl ?_
        refine EG_take 3 rfl (by kernel_rfl) (by kernel_rfl) (by kernel_rfl) rfl 40 (by kernel_rfl) (.int .u64 x57) rfl (r_loadA rfl (A59'.below B74) (u := .int .u64 x57) rfl Try.underlying47 rfl) rfl ?_
        refine EG_take 4 rfl (by kernel_rfl) (by kernel_rfl) (by kernel_rfl) rfl 40 (by kernel_rfl) (.int .u8 (b66.toNat : Int)) rfl (r_move rfl) rfl ?_
        refine EG_take 5 rfl (by kernel_rfl) (by kernel_rfl) (by kernel_rfl) rfl 40 (by kernel_rfl) (.int .u64 (b66.toNat : Int)) rfl (r_asn (by omega) (r_convq 5 47 rfl Try.underlying5 Try.underlying47)) rfl ?_
        refine EG_take 6 rfl (by kernel_rfl) (by kernel_rfl) (by kernel_rfl) rfl 40 (by kernel_rfl) (.int .i64 2) rfl (r_move rfl) rfl ?_
        refine EG_take 7 rfl (by kernel_rfl) (by kernel_rfl) (by kernel_rfl) rfl 40 (by kernel_rfl) (.int .i64 2) rfl (r_asn (by kernel_rfl) (r_rem rfl rfl (by decide))) rfl ?_
        refine EG_take 8 rfl (by kernel_rfl) (by kernel_rfl) (by kernel_rfl) rfl 40 (by kernel_rfl) (.int .i64 16) rfl (r_asn (by kernel_rfl) (r_mul rfl rfl)) rfl ?_
        obtain ⟨x75, hx75⟩ : ∃ z : Int, z = (b66.toNat : Int) * 65536 % 18446744073709551616 := ⟨_, rfl⟩
        refine EG_take 9 rfl (by kernel_rfl) (by kernel_rfl) (by kernel_rfl) rfl 40 (by kernel_rfl) (.int .u64 x75) rfl (by rw [hx75]; exact r_shlq (n := 16) rfl rfl rfl (by decide) (by decide)) rfl ?_
        obtain ⟨x76, hx76⟩ : ∃ z : Int, z = x57 + x75 := ⟨_, rfl⟩
        refine EG_take 10 rfl (by kernel_rfl) (by kernel_rfl) (by kernel_rfl) rfl 40 (by kernel_rfl) (.int .u64 x76) rfl (by rw [hx76]; exact r_orq b66.toNat (x57 : Int).toNat 16 rfl rfl (by omega) (by omega) (by omega) (by omega)) rfl ?_
        refine EG_take 11 rfl (by kernel_rfl) (by kernel_rfl) (by kernel_rfl) rfl 40 (by kernel_rfl) (ptr b18 0) rfl (r_indexA (i := 0) rfl rfl (by omega) (by omega) Try.underlying49 (by kernel_rfl)) rfl ?_
        refine EG_one 12 rfl (by kernel_rfl) (by kernel_rfl) ?_
        refine EL_storeA (j := 0) (u := .int .u64 x76) rfl rfl (A59'.below B74) (by first | (simp; omega) | simp) rfl (by kernel_rfl) ?_
        intro w77 A78 K79 z80
        have A78' : Arr w77 b18 49 ((([x76, 0, 0] : List Int)).map (Value.int .u64)) := A78
        have B81 : Below w.heap.size w w77 := below_kept B72 K79 (Nat.le_trans B17.size (Nat.le_of_eq k20.symm)) (B72.size)
        have B82 : Below w12.heap.size w12 w77 := below_kept B73 K79 (Nat.le_trans (Nat.le_refl _) (Nat.le_of_eq k20.symm)) (B73.size)
        have A83 : Arr w77 b11 49 ((List.replicate 3 0).map (Value.int .u64)) := (A64.below B74).grew K79 (by simp; omega)
        refine EL_nil ?_
        refine ⟨rfl, ?_⟩
        refine EG_done (by kernel_rfl) ?_
        refine inB_n ?_
        refine thn_n ?_
        refine EC_reg ?_
        refine EL_val (.int .i64 3) w77 rfl (r_asn (by kernel_rfl) (r_add rfl rfl)) ?_
        refine EL_val (.int .i64 3) w77 rfl (r_move rfl) ?_
        refine EL_nil ?_
        refine thn_n ?_
        refine U_step ?_
        refine EC_seq ?_
        refine EC_reg ?_
        refine EL_val (.bool (decide (3 < (b.length : Int)))) w77 rfl (r_lss rfl rfl) ?_
        refine EL_nil ?_
        refine thn_n ?_
        refine EC_seq ?_
        refine EC_if (p := 3 < (b.length : Int)) rfl (fun h84 => ?_) (fun h84 => ?_)
        · refine EC_skip ?_
          refine thn_n ?_
          refine EC_seq ?_
          refine EC_block ?_
          refine EC_seq ?_
          refine EC_reg ?_
          refine EL_val (.int .i64 3) w77 rfl (r_move rfl) ?_
          refine EL_val (.pointer (some (at_ v0 ((3 : Int).toNat)))) w77 rfl (r_index rfl (H0.below B81) rfl (by omega) (by first | omega | (simp; omega) | simp) Try.underlying22 (by kernel_rfl)) ?_
          obtain ⟨b85, hb86⟩ := get_some (l := b) (j := (3 : Int).toNat) (by omega)
          have hb87 := b85.toNat_lt
          refine EL_val (.int .u8 (b85.toNat : Int)) w77 rfl (r_load rfl ((H0.below B81).cell (bs_get hb86)) Try.underlying5 rfl) ?_
          refine EL_val (.int .i64 3) w77 rfl (r_assign rfl) ?_
          refine EL_val (.int .u8 (b85.toNat : Int)) w77 rfl (r_assign rfl) ?_
          refine EL_nil ?_
          refine thn_n ?_
          refine EC_heads 12 (by kernel_rfl) ?_
          intro w88 B89 z90
          have B91 : Below w.heap.size w w88 := below_full B81 B81.size B89
          have B92 : Below w12.heap.size w12 w88 := below_full B82 B82.size B89
          have B93 : Below w77.heap.size w77 w88 := B89
          refine EG_take 0 rfl (by kernel_rfl) (by kernel_rfl) (by kernel_rfl) rfl 40 (by kernel_rfl) (.int .i64 3) rfl (r_move rfl) rfl ?_
          refine EG_take 1 rfl (by kernel_rfl) (by kernel_rfl) (by kernel_rfl) rfl 40 (by kernel_rfl) (.int .i64 0) rfl (r_asn (by kernel_rfl) (r_quo rfl rfl (by decide))) rfl ?_
          refine EG_take 2 rfl (by kernel_rfl) (by kernel_rfl) (by kernel_rfl) rfl 40 (by kernel_rfl) (ptr b18 0) rfl (r_indexA (i := 0) rfl rfl (by omega) (by omega) Try.underlying49 (by kernel_rfl)) rfl ?_
          refine EG_take 3 rfl (by kernel_rfl) (by kernel_rfl) (by kernel_rfl) rfl 40 (by kernel_rfl) (.int .u64 x76) rfl (r_loadA rfl (A78'.below B93) (u := .int .u64 x76) rfl Try.underlying47 rfl) rfl ?_
          refine EG_take 4 rfl (by kernel_rfl) (by kernel_rfl) (by kernel_rfl) rfl 40 (by kernel_rfl) (.int .u8 (b85.toNat : Int)) rfl (r_move rfl) rfl ?_
          refine EG_take 5 rfl (by kernel_rfl) (by kernel_rfl) (by kernel_rfl) rfl 40 (by kernel_rfl) (.int .u64 (b85.toNat : Int)) rfl (r_asn (by omega) (r_convq 5 47 rfl Try.underlying5 Try.underlying47)) rfl ?_
          refine EG_take 6 rfl (by kernel_rfl) (by kernel_rfl) (by kernel_rfl) rfl 40 (by kernel_rfl) (.int .i64 3) rfl (r_move rfl) rfl ?_
          refine EG_take 7 rfl (by kernel_rfl) (by kernel_rfl) (by kernel_rfl) rfl 40 (by kernel_rfl) (.int .i64 3) rfl (r_asn (by kernel_rfl) (r_rem rfl rfl (by decide))) rfl ?_
          refine EG_take 8 rfl (by kernel_rfl) (by kernel_rfl) (by kernel_rfl) rfl 40 (by kernel_rfl) (.int .i64 24) rfl (r_asn (by kernel_rfl) (r_mul rfl rfl)) rfl ?_
          obtain ⟨x94, hx94⟩ : ∃ z : Int, z = (b85.toNat : Int) * 16777216 % 18446744073709551616 := ⟨_, rfl⟩
          refine EG_take 9 rfl (by kernel_rfl) (by kernel_rfl) (by kernel_rfl) rfl 40 (by kernel_rfl) (.int .u64 x94) rfl (by rw [hx94]; exact r_shlq (n := 24) rfl rfl rfl (by decide) (by decide)) rfl ?_
          obtain ⟨x95, hx95⟩ : ∃ z : Int, z = x76 + x94 := ⟨_, rfl⟩
          refine EG_take 10 rfl (by kernel_rfl) (by kernel_rfl) (by kernel_rfl) rfl 40 (by kernel_rfl) (.int .u64 x95) rfl (by rw [hx95]; exact r_orq b85.toNat (x76 : Int).toNat 24 rfl rfl (by omega) (by omega) (by omega) (by omega)) rfl ?_
          refine EG_take 11 rfl (by kernel_rfl) (by kernel_rfl) (by kernel_rfl) rfl 40 (by kernel_rfl) (ptr b18 0) rfl (r_indexA (i := 0) rfl rfl (by omega) (by omega) Try.underlying49 (by kernel_rfl)) rfl ?_
          refine EG_one 12 rfl (by kernel_rfl) (by kernel_rfl) ?_
          refine EL_storeA (j := 0) (u := .int .u64 x95) rfl rfl (A78'.below B93) (by first | (simp; omega) | simp) rfl (by kernel_rfl) ?_
          intro w96 A97 K98 z99
          have A97' : Arr w96 b18 49 ((([x95, 0, 0] : List Int)).map (Value.int .u64)) := A97
          have B100 : Below w.heap.size w w96 := below_kept B91 K98 (Nat.le_trans B17.size (Nat.le_of_eq k20.symm)) (B91.size)
          have B101 : Below w12.heap.size w12 w96 := below_kept B92 K98 (Nat.le_trans (Nat.le_refl _) (Nat.le_of_eq k20.symm)) (B92.size)
          have A102 : Arr w96 b11 49 ((List.replicate 3 0).map (Value.int .u64)) := (A83.below B93).grew K98 (by simp; omega)
          refine EL_nil ?_
          refine ⟨rfl, ?_⟩
          refine EG_done (by kernel_rfl) ?_
          refine inB_n ?_
          refine thn_n ?_
          refine EC_reg ?_
          refine EL_val (.int .i64 4) w96 rfl (r_asn (by kernel_rfl) (r_add rfl rfl)) ?_
          refine EL_val (.int .i64 4) w96 rfl (r_move rfl) ?_
          refine EL_nil ?_
          refine thn_n ?_
          refine U_step ?_
          refine EC_seq ?_
          refine EC_reg ?_
          refine EL_val (.bool (decide (4 < (b.length : Int)))) w96 rfl (r_lss rfl rfl) ?_
          refine EL_nil ?_
          refine thn_n ?_
          refine EC_seq ?_
          refine EC_if (p := 4 < (b.length : Int)) rfl (fun h103 => ?_) (fun h103 => ?_)
          · refine EC_skip ?_
            refine thn_n ?_
            refine EC_seq ?_
            refine EC_block ?_
            refine EC_seq ?_
            refine EC_reg ?_
            refine EL_val (.int .i64 4) w96 rfl (r_move rfl) ?_
            refine EL_val (.pointer (some (at_ v0 ((4 : Int).toNat)))) w96 rfl (r_index rfl (H0.below B100) rfl (by omega) (by first | omega | (simp; omega) | simp) Try.underlying22 (by kernel_rfl)) ?_
            obtain ⟨b104, hb105⟩ := get_some (l := b) (j := (4 : Int).toNat) (by omega)
            have hb106 := b104.toNat_lt
            refine EL_val (.int .u8 (b104.toNat : Int)) w96 rfl (r_load rfl ((H0.below B100).cell (bs_get hb105)) Try.underlying5 rfl) ?_
            refine EL_val (.int .i64 4) w96 rfl (r_assign rfl) ?_
            refine EL_val (.int .u8 (b104.toNat : Int)) w96 rfl (r_assign rfl) ?_
            refine EL_nil ?_
            refine thn_n ?_
            refine EC_heads 12 (by kernel_rfl) ?_
            intro w107 B108 z109
            have B110 : Below w.heap.size w w107 := below_full B100 B100.size B108
            have B111 : Below w12.heap.size w12 w107 := below_full B101 B101.size B108
            have B112 : Below w96.heap.size w96 w107 := B108
            refine EG_take 0 rfl (by kernel_rfl) (by kernel_rfl) (by kernel_rfl) rfl 40 (by kernel_rfl) (.int .i64 4) rfl (r_move rfl) rfl ?_
            refine EG_take 1 rfl (by kernel_rfl) (by kernel_rfl) (by kernel_rfl) rfl 40 (by kernel_rfl) (.int .i64 0) rfl (r_asn (by kernel_rfl) (r_quo rfl rfl (by decide))) rfl ?_
            refine EG_take 2 rfl (by kernel_rfl) (by kernel_rfl) (by kernel_rfl) rfl 40 (by kernel_rfl) (ptr b18 0) rfl (r_indexA (i := 0) rfl rfl (by omega) (by omega) Try.underlying49 (by kernel_rfl)) rfl ?_
            refine EG_take 3 rfl (by kernel_rfl) (by kernel_rfl) (by kernel_rfl) rfl 40 (by kernel_rfl) (.int .u64 x95) rfl (r_loadA rfl (A97'.below B112) (u := .int .u64 x95) rfl Try.underlying47 rfl) rfl ?_
            refine EG_take 4 rfl (by kernel_rfl) (by kernel_rfl) (by kernel_rfl) rfl 40 (by kernel_rfl) (.int .u8 (b104.toNat : Int)) rfl (r_move rfl) rfl ?_
            refine EG_take 5 rfl (by kernel_rfl) (by kernel_rfl) (by kernel_rfl) rfl 40 (by kernel_rfl) (.int .u64 (b104.toNat : Int)) rfl (r_asn (by omega) (r_convq 5 47 rfl Try.underlying5 Try.underlying47)) rfl ?_
            refine EG_take 6 rfl (by kernel_rfl) (by kernel_rfl) (by kernel_rfl) rfl 40 (by kernel_rfl) (.int .i64 4) rfl (r_move rfl) rfl ?_
            refine EG_take 7 rfl (by kernel_rfl) (by kernel_rfl) (by kernel_rfl) rfl 40 (by kernel_rfl) (.int .i64 4) rfl (r_asn (by kernel_rfl) (r_rem rfl rfl (by decide))) rfl ?_
            refine EG_take 8 rfl (by kernel_rfl) (by kernel_rfl) (by kernel_rfl) rfl 40 (by kernel_rfl) (.int .i64 32) rfl (r_asn (by kernel_rfl) (r_mul rfl rfl)) rfl ?_
            obtain ⟨x113, hx113⟩ : ∃ z : Int, z = (b104.toNat : Int) * 4294967296 % 18446744073709551616 := ⟨_, rfl⟩
            refine EG_take 9 rfl (by kernel_rfl) (by kernel_rfl) (by kernel_rfl) rfl 40 (by kernel_rfl) (.int .u64 x113) rfl (by rw [hx113]; exact r_shlq (n := 32) rfl rfl rfl (by decide) (by decide)) rfl ?_
            obtain ⟨x114, hx114⟩ : ∃ z : Int, z = x95 + x113 := ⟨_, rfl⟩
            refine EG_take 10 rfl (by kernel_rfl) (by kernel_rfl) (by kernel_rfl) rfl 40 (by kernel_rfl) (.int .u64 x114) rfl (by rw [hx114]; exact r_orq b104.toNat (x95 : Int).toNat 32 rfl rfl (by omega) (by omega) (by omega) (by omega)) rfl ?_
            refine EG_take 11 rfl (by kernel_rfl) (by kernel_rfl) (by kernel_rfl) rfl 40 (by kernel_rfl) (ptr b18 0) rfl (r_indexA (i := 0) rfl rfl (by omega) (by omega) Try.underlying49 (by kernel_rfl)) rfl ?_
            refine EG_one 12 rfl (by kernel_rfl) (by kernel_rfl) ?_
            refine EL_storeA (j := 0) (u := .int .u64 x114) rfl rfl (A97'.below B112) (by first | (simp; omega) | simp) rfl (by kernel_rfl) ?_
            intro w115 A116 K117 z118
            have A116' : Arr w115 b18 49 ((([x114, 0, 0] : List Int)).map (Value.int .u64)) := A116
            have B119 : Below w.heap.size w w115 := below_kept B110 K117 (Nat.le_trans B17.size (Nat.le_of_eq k20.symm)) (B110.size)
            have B120 : Below w12.heap.size w12 w115 := below_kept B111 K117 (Nat.le_trans (Nat.le_refl _) (Nat.le_of_eq k20.symm)) (B111.size)
            have A121 : Arr w115 b11 49 ((List.replicate 3 0).map (Value.int .u64)) := (A102.below B112).grew K117 (by simp; omega)
            refine EL_nil ?_
            refine ⟨rfl, ?_⟩
            refine EG_done (by kernel_rfl) ?_
            refine inB_n ?_
            refine thn_n ?_
            refine EC_reg ?_
            refine EL_val (.int .i64 5) w115 rfl (r_asn (by kernel_rfl) (r_add rfl rfl)) ?_
            refine EL_val (.int .i64 5) w115 rfl (r_move rfl) ?_
            refine EL_nil ?_
            refine thn_n ?_
            refine U_step ?_
            refine EC_seq ?_
            refine EC_reg ?_
            refine EL_val (.bool (decide (5 < (b.length : Int)))) w115 rfl (r_lss rfl rfl) ?_
            refine EL_nil ?_
            refine thn_n ?_
            refine EC_seq ?_
            refine EC_if (p := 5 < (b.length : Int)) rfl (fun h122 => ?_) (fun h122 => ?_)
            · refine EC_skip ?_
              refine thn_n ?_
              refine EC_seq ?_
              refine EC_block ?_
              refine EC_seq ?_
              refine EC_reg ?_
              refine EL_val (.int .i64 5) w115 rfl (r_move rfl) ?_
              refine EL_val (.pointer (some (at_ v0 ((5 : Int).toNat)))) w115 rfl (r_index rfl (H0.below B119) rfl (by omega) (by first | omega | (simp; omega) | simp) Try.underlying22 (by kernel_rfl)) ?_
              obtain ⟨b123, hb124⟩ := get_some (l := b) (j := (5 : Int).toNat) (by omega)
              have hb125 := b123.toNat_lt
              refine EL_val (.int .u8 (b123.toNat : Int)) w115 rfl (r_load rfl ((H0.below B119).cell (bs_get hb124)) Try.underlying5 rfl) ?_
              refine EL_val (.int .i64 5) w115 rfl (r_assign rfl) ?_
              refine EL_val (.int .u8 (b123.toNat : Int)) w115 rfl (r_assign rfl) ?_
              refine EL_nil ?_
              refine thn_n ?_
              refine EC_heads 12 (by kernel_rfl) ?_
              intro w126 B127 z128
              have B129 : Below w.heap.size w w126 := below_full B119 B119.size B127
              have B130 : Below w12.heap.size w12 w126 := below_full B120 B120.size B127
              have B131 : Below w115.heap.size w115 w126 := B127
              refine EG_take 0 rfl (by kernel_rfl) (by kernel_rfl) (by kernel_rfl) rfl 40 (by kernel_rfl) (.int .i64 5) rfl (r_move rfl) rfl ?_
              refine EG_take 1 rfl (by kernel_rfl) (by kernel_rfl) (by kernel_rfl) rfl 40 (by kernel_rfl) (.int .i64 0) rfl (r_asn (by kernel_rfl) (r_quo rfl rfl (by decide))) rfl ?_
              refine EG_take 2 rfl (by kernel_rfl) (by kernel_rfl) (by kernel_rfl) rfl 40 (by kernel_rfl) (ptr b18 0) rfl (r_indexA (i := 0) rfl rfl (by omega) (by omega) Try.underlying49 (by kernel_rfl)) rfl ?_
              refine EG_take 3 rfl (by kernel_rfl) (by kernel_rfl) (by kernel_rfl) rfl 40 (by kernel_rfl) (.int .u64 x114) rfl (r_loadA rfl (A116'.below B131) (u := .int .u64 x114) rfl Try.underlying47 rfl) rfl ?_
              refine EG_take 4 rfl (by kernel_rfl) (by kernel_rfl) (by kernel_rfl) rfl 40 (by kernel_rfl) (.int .u8 (b123.toNat : Int)) rfl (r_move rfl) rfl ?_
              refine EG_take 5 rfl (by kernel_rfl) (by kernel_rfl) (by kernel_rfl) rfl 40 (by kernel_rfl) (.int .u64 (b123.toNat : Int)) rfl (r_asn (by omega) (r_convq 5 47 rfl Try.underlying5 Try.underlying47)) rfl ?_
              refine EG_take 6 rfl (by kernel_rfl) (by kernel_rfl) (by kernel_rfl) rfl 40 (by kernel_rfl) (.int .i64 5) rfl (r_move rfl) rfl ?_
              refine EG_take 7 rfl (by kernel_rfl) (by kernel_rfl) (by kernel_rfl) rfl 40 (by kernel_rfl) (.int .i64 5) rfl (r_asn (by kernel_rfl) (r_rem rfl rfl (by decide))) rfl ?_
              refine EG_take 8 rfl (by kernel_rfl) (by kernel_rfl) (by kernel_rfl) rfl 40 (by kernel_rfl) (.int .i64 40) rfl (r_asn (by kernel_rfl) (r_mul rfl rfl)) rfl ?_
              obtain ⟨x132, hx132⟩ : ∃ z : Int, z = (b123.toNat : Int) * 1099511627776 % 18446744073709551616 := ⟨_, rfl⟩
              refine EG_take 9 rfl (by kernel_rfl) (by kernel_rfl) (by kernel_rfl) rfl 40 (by kernel_rfl) (.int .u64 x132) rfl (by rw [hx132]; exact r_shlq (n := 40) rfl rfl rfl (by decide) (by decide)) rfl ?_
              obtain ⟨x133, hx133⟩ : ∃ z : Int, z = x114 + x132 := ⟨_, rfl⟩
              refine EG_take 10 rfl (by kernel_rfl) (by kernel_rfl) (by kernel_rfl) rfl 40 (by kernel_rfl) (.int .u64 x133) rfl (by rw [hx133]; exact r_orq b123.toNat (x114 : Int).toNat 40 rfl rfl (by omega) (by omega) (by omega) (by omega)) rfl ?_
              refine EG_take 11 rfl (by kernel_rfl) (by kernel_rfl) (by kernel_rfl) rfl 40 (by kernel_rfl) (ptr b18 0) rfl (r_indexA (i := 0) rfl rfl (by omega) (by omega) Try.underlying49 (by kernel_rfl)) rfl ?_
              refine EG_one 12 rfl (by kernel_rfl) (by kernel_rfl) ?_
              refine EL_storeA (j := 0) (u := .int .u64 x133) rfl rfl (A116'.below B131) (by first | (simp; omega) | simp) rfl (by kernel_rfl) ?_
              intro w134 A135 K136 z137
              have A135' : Arr w134 b18 49 ((([x133, 0, 0] : List Int)).map (Value.int .u64)) := A135
              have B138 : Below w.heap.size w w134 := below_kept B129 K136 (Nat.le_trans B17.size (Nat.le_of_eq k20.symm)) (B129.size)
              have B139 : Below w12.heap.size w12 w134 := below_kept B130 K136 (Nat.le_trans (Nat.le_refl _) (Nat.le_of_eq k20.symm)) (B130.size)
              have A140 : Arr w134 b11 49 ((List.replicate 3 0).map (Value.int .u64)) := (A121.below B131).grew K136 (by simp; omega)
              refine EL_nil ?_
              refine ⟨rfl, ?_⟩
              refine EG_done (by kernel_rfl) ?_
              refine inB_n ?_
              refine thn_n ?_
              refine EC_reg ?_
              refine EL_val (.int .i64 6) w134 rfl (r_asn (by kernel_rfl) (r_add rfl rfl)) ?_
              refine EL_val (.int .i64 6) w134 rfl (r_move rfl) ?_
              refine EL_nil ?_
              refine thn_n ?_
              refine U_step ?_
              refine EC_seq ?_
              refine EC_reg ?_
              refine EL_val (.bool (decide (6 < (b.length : Int)))) w134 rfl (r_lss rfl rfl) ?_
              refine EL_nil ?_
              refine thn_n ?_
              refine EC_seq ?_
              refine EC_if (p := 6 < (b.length : Int)) rfl (fun h141 => ?_) (fun h141 => ?_)
              · refine EC_skip ?_
                refine thn_n ?_
                refine EC_seq ?_
                refine EC_block ?_
                refine EC_seq ?_
                refine EC_reg ?_
                refine EL_val (.int .i64 6) w134 rfl (r_move rfl) ?_
                refine EL_val (.pointer (some (at_ v0 ((6 : Int).toNat)))) w134 rfl (r_index rfl (H0.below B138) rfl (by omega) (by first | omega | (simp; omega) | simp) Try.underlying22 (by kernel_rfl)) ?_
                obtain ⟨b142, hb143⟩ := get_some (l := b) (j := (6 : Int).toNat) (by omega)
                have hb144 := b142.toNat_lt
                refine EL_val (.int .u8 (b142.toNat : Int)) w134 rfl (r_load rfl ((H0.below B138).cell (bs_get hb143)) Try.underlying5 rfl) ?_
                refine EL_val (.int .i64 6) w134 rfl (r_assign rfl) ?_
                refine EL_val (.int .u8 (b142.toNat : Int)) w134 rfl (r_assign rfl) ?_
                refine EL_nil ?_
                refine thn_n ?_
                refine EC_heads 12 (by kernel_rfl) ?_
                intro w145 B146 z147
                have B148 : Below w.heap.size w w145 := below_full B138 B138.size B146
                have B149 : Below w12.heap.size w12 w145 := below_full B139 B139.size B146
                have B150 : Below w134.heap.size w134 w145 := B146
                refine EG_take 0 rfl (by kernel_rfl) (by kernel_rfl) (by kernel_rfl) rfl 40 (by kernel_rfl) (.int .i64 6) rfl (r_move rfl) rfl ?_
                refine EG_take 1 rfl (by kernel_rfl) (by kernel_rfl) (by kernel_rfl) rfl 40 (by kernel_rfl) (.int .i64 0) rfl (r_asn (by kernel_rfl) (r_quo rfl rfl (by decide))) rfl ?_
                refine EG_take 2 rfl (by kernel_rfl) (by kernel_rfl) (by kernel_rfl) rfl 40 (by kernel_rfl) (ptr b18 0) rfl (r_indexA (i := 0) rfl rfl (by omega) (by omega) Try.underlying49 (by kernel_rfl)) rfl ?_
                refine EG_take 3 rfl (by kernel_rfl) (by kernel_rfl) (by kernel_rfl) rfl 40 (by kernel_rfl) (.int .u64 x133) rfl (r_loadA rfl (A135'.below B150) (u := .int .u64 x133) rfl Try.underlying47 rfl) rfl ?_
                refine EG_take 4 rfl (by kernel_rfl) (by kernel_rfl) (by kernel_rfl) rfl 40 (by kernel_rfl) (.int .u8 (b142.toNat : Int)) rfl (r_move rfl) rfl ?_
                refine EG_take 5 rfl (by kernel_rfl) (by kernel_rfl) (by kernel_rfl) rfl 40 (by kernel_rfl) (.int .u64 (b142.toNat : Int)) rfl (r_asn (by omega) (r_convq 5 47 rfl Try.underlying5 Try.underlying47)) rfl ?_
                refine EG_take 6 rfl (by kernel_rfl) (by kernel_rfl) (by kernel_rfl) rfl 40 (by kernel_rfl) (.int .i64 6) rfl (r_move rfl) rfl ?_
                refine EG_take 7 rfl (by kernel_rfl) (by kernel_rfl) (by kernel_rfl) rfl 40 (by kernel_rfl) (.int .i64 6) rfl (r_asn (by kernel_rfl) (r_rem rfl rfl (by decide))) rfl ?_
                refine EG_take 8 rfl (by kernel_rfl) (by kernel_rfl) (by kernel_rfl) rfl 40 (by kernel_rfl) (.int .i64 48) rfl (r_asn (by kernel_rfl) (r_mul rfl rfl)) rfl ?_
                obtain ⟨x151, hx151⟩ : ∃ z : Int, z = (b142.toNat : Int) * 281474976710656 % 18446744073709551616 := ⟨_, rfl⟩
                refine EG_take 9 rfl (by kernel_rfl) (by kernel_rfl) (by kernel_rfl) rfl 40 (by kernel_rfl) (.int .u64 x151) rfl (by rw [hx151]; exact r_shlq (n := 48) rfl rfl rfl (by decide) (by decide)) rfl ?_
                obtain ⟨x152, hx152⟩ : ∃ z : Int, z = x133 + x151 := ⟨_, rfl⟩
                refine EG_take 10 rfl (by kernel_rfl) (by kernel_rfl) (by kernel_rfl) rfl 40 (by kernel_rfl) (.int .u64 x152) rfl (by rw [hx152]; exact r_orq b142.toNat (x133 : Int).toNat 48 rfl rfl (by omega) (by omega) (by omega) (by omega)) rfl ?_
                refine EG_take 11 rfl (by kernel_rfl) (by kernel_rfl) (by kernel_rfl) rfl 40 (by kernel_rfl) (ptr b18 0) rfl (r_indexA (i := 0) rfl rfl (by omega) (by omega) Try.underlying49 (by kernel_rfl)) rfl ?_
                refine EG_one 12 rfl (by kernel_rfl) (by kernel_rfl) ?_
                refine EL_storeA (j := 0) (u := .int .u64 x152) rfl rfl (A135'.below B150) (by first | (simp; omega) | simp) rfl (by kernel_rfl) ?_
                intro w153 A154 K155 z156
                have A154' : Arr w153 b18 49 ((([x152, 0, 0] : List Int)).map (Value.int .u64)) := A154
                have B157 : Below w.heap.size w w153 := below_kept B148 K155 (Nat.le_trans B17.size (Nat.le_of_eq k20.symm)) (B148.size)
                have B158 : Below w12.heap.size w12 w153 := below_kept B149 K155 (Nat.le_trans (Nat.le_refl _) (Nat.le_of_eq k20.symm)) (B149.size)
                have A159 : Arr w153 b11 49 ((List.replicate 3 0).map (Value.int .u64)) := (A140.below B150).grew K155 (by simp; omega)
                refine EL_nil ?_
                refine ⟨rfl, ?_⟩
                refine EG_done (by kernel_rfl) ?_
                refine inB_n ?_
                refine thn_n ?_
                refine EC_reg ?_
                refine EL_val (.int .i64 7) w153 rfl (r_asn (by kernel_rfl) (r_add rfl rfl)) ?_
                refine EL_val (.int .i64 7) w153 rfl (r_move rfl) ?_
                refine EL_nil ?_
                refine thn_n ?_
                refine U_step ?_
                refine EC_seq ?_
                refine EC_reg ?_
                refine EL_val (.bool (decide (7 < (b.length : Int)))) w153 rfl (r_lss rfl rfl) ?_
                refine EL_nil ?_
                refine thn_n ?_
                refine EC_seq ?_
                refine EC_if (p := 7 < (b.length : Int)) rfl (fun h160 => ?_) (fun h160 => ?_)
                · refine EC_skip ?_
                  refine thn_n ?_
                  refine EC_seq ?_
                  refine EC_block ?_
                  refine EC_seq ?_
                  refine EC_reg ?_
                  refine EL_val (.int .i64 7) w153 rfl (r_move rfl) ?_
                  refine EL_val (.pointer (some (at_ v0 ((7 : Int).toNat)))) w153 rfl (r_index rfl (H0.below B157) rfl (by omega) (by first | omega | (simp; omega) | simp) Try.underlying22 (by kernel_rfl)) ?_
                  obtain ⟨b161, hb162⟩ := get_some (l := b) (j := (7 : Int).toNat) (by omega)
                  have hb163 := b161.toNat_lt
                  refine EL_val (.int .u8 (b161.toNat : Int)) w153 rfl (r_load rfl ((H0.below B157).cell (bs_get hb162)) Try.underlying5 rfl) ?_
                  refine EL_val (.int .i64 7) w153 rfl (r_assign rfl) ?_
                  refine EL_val (.int .u8 (b161.toNat : Int)) w153 rfl (r_assign rfl) ?_
                  refine EL_nil ?_
                  refine thn_n ?_
                  refine EC_heads 12 (by kernel_rfl) ?_
                  intro w164 B165 z166
                  have B167 : Below w.heap.size w w164 := below_full B157 B157.size B165
                  have B168 : Below w12.heap.size w12 w164 := below_full B158 B158.size B165
                  have B169 : Below w153.heap.size w153 w164 := B165
                  refine EG_take 0 rfl (by kernel_rfl) (by kernel_rfl) (by kernel_rfl) rfl 40 (by kernel_rfl) (.int .i64 7) rfl (r_move rfl) rfl ?_
                  refine EG_take 1 rfl (by kernel_rfl) (by kernel_rfl) (by kernel_rfl) rfl 40 (by kernel_rfl) (.int .i64 0) rfl (r_asn (by kernel_rfl) (r_quo rfl rfl (by decide))) rfl ?_
                  refine EG_take 2 rfl (by kernel_rfl) (by kernel_rfl) (by kernel_rfl) rfl 40 (by kernel_rfl) (ptr b18 0) rfl (r_indexA (i := 0) rfl rfl (by omega) (by omega) Try.underlying49 (by kernel_rfl)) rfl ?_
                  refine EG_take 3 rfl (by kernel_rfl) (by kernel_rfl) (by kernel_rfl) rfl 40 (by kernel_rfl) (.int .u64 x152) rfl (r_loadA rfl (A154'.below B169) (u := .int .u64 x152) rfl Try.underlying47 rfl) rfl ?_
                  refine EG_take 4 rfl (by kernel_rfl) (by kernel_rfl) (by kernel_rfl) rfl 40 (by kernel_rfl) (.int .u8 (b161.toNat : Int)) rfl (r_move rfl) rfl ?_
                  refine EG_take 5 rfl (by kernel_rfl) (by kernel_rfl) (by kernel_rfl) rfl 40 (by kernel_rfl) (.int .u64 (b161.toNat : Int)) rfl (r_asn (by omega) (r_convq 5 47 rfl Try.underlying5 Try.underlying47)) rfl ?_
                  refine EG_take 6 rfl (by kernel_rfl) (by kernel_rfl) (by kernel_rfl) rfl 40 (by kernel_rfl) (.int .i64 7) rfl (r_move rfl) rfl ?_
                  refine EG_take 7 rfl (by kernel_rfl) (by kernel_rfl) (by kernel_rfl) rfl 40 (by kernel_rfl) (.int .i64 7) rfl (r_asn (by kernel_rfl) (r_rem rfl rfl (by decide))) rfl ?_
                  refine EG_take 8 rfl (by kernel_rfl) (by kernel_rfl) (by kernel_rfl) rfl 40 (by kernel_rfl) (.int .i64 56) rfl (r_asn (by kernel_rfl) (r_mul rfl rfl)) rfl ?_
                  obtain ⟨x170, hx170⟩ : ∃ z : Int, z = (b161.toNat : Int) * 72057594037927936 % 18446744073709551616 := ⟨_, rfl⟩
                  refine EG_take 9 rfl (by kernel_rfl) (by kernel_rfl) (by kernel_rfl) rfl 40 (by kernel_rfl) (.int .u64 x170) rfl (by rw [hx170]; exact r_shlq (n := 56) rfl rfl rfl (by decide) (by decide)) rfl ?_
                  obtain ⟨x171, hx171⟩ : ∃ z : Int, z = x152 + x170 := ⟨_, rfl⟩
                  refine EG_take 10 rfl (by kernel_rfl) (by kernel_rfl) (by kernel_rfl) rfl 40 (by kernel_rfl) (.int .u64 x171) rfl (by rw [hx171]; exact r_orq b161.toNat (x152 : Int).toNat 56 rfl rfl (by omega) (by omega) (by omega) (by omega)) rfl ?_
                  refine EG_take 11 rfl (by kernel_rfl) (by kernel_rfl) (by kernel_rfl) rfl 40 (by kernel_rfl) (ptr b18 0) rfl (r_indexA (i := 0) rfl rfl (by omega) (by omega) Try.underlying49 (by kernel_rfl)) rfl ?_
                  refine EG_one 12 rfl (by kernel_rfl) (by kernel_rfl) ?_
                  refine EL_storeA (j := 0) (u := .int .u64 x171) rfl rfl (A154'.below B169) (by first | (simp; omega) | simp) rfl (by kernel_rfl) ?_
                  intro w172 A173 K174 z175
                  have A173' : Arr w172 b18 49 ((([x171, 0, 0] : List Int)).map (Value.int .u64)) := A173
                  have B176 : Below w.heap.size w w172 := below_kept B167 K174 (Nat.le_trans B17.size (Nat.le_of_eq k20.symm)) (B167.size)
                  have B177 : Below w12.heap.size w12 w172 := below_kept B168 K174 (Nat.le_trans (Nat.le_refl _) (Nat.le_of_eq k20.symm)) (B168.size)
                  have A178 : Arr w172 b11 49 ((List.replicate 3 0).map (Value.int .u64)) := (A159.below B169).grew K174 (by simp; omega)
                  refine EL_nil ?_
                  refine ⟨rfl, ?_⟩
                  refine EG_done (by kernel_rfl) ?_
                  refine inB_n ?_
                  refine thn_n ?_
                  refine EC_reg ?_
                  refine EL_val (.int .i64 8) w172 rfl (r_asn (by kernel_rfl) (r_add rfl rfl)) ?_
                  refine EL_val (.int .i64 8) w172 rfl (r_move rfl) ?_
                  refine EL_nil ?_
                  refine thn_n ?_
                  refine U_step ?_
                  refine EC_seq ?_
                  refine EC_reg ?_
                  refine EL_val (.bool (decide (8 < (b.length : Int)))) w172 rfl (r_lss rfl rfl) ?_
                  refine EL_nil ?_
                  refine thn_n ?_
                  refine EC_seq ?_
                  refine EC_if (p := 8 < (b.length : Int)) rfl (fun h179 => ?_) (fun h179 => ?_)
                  · refine EC_skip ?_
                    refine thn_n ?_
                    refine EC_seq ?_
                    refine EC_block ?_
                    refine EC_seq ?_
                    refine EC_reg ?_
                    refine EL_val (.int .i64 8) w172 rfl (r_move rfl) ?_
                    refine EL_val (.pointer (some (at_ v0 ((8 : Int).toNat)))) w172 rfl (r_index rfl (H0.below B176) rfl (by omega) (by first | omega | (simp; omega) | simp) Try.underlying22 (by kernel_rfl)) ?_
                    obtain ⟨b180, hb181⟩ := get_some (l := b) (j := (8 : Int).toNat) (by omega)
                    have hb182 := b180.toNat_lt
                    refine EL_val (.int .u8 (b180.toNat : Int)) w172 rfl (r_load rfl ((H0.below B176).cell (bs_get hb181)) Try.underlying5 rfl) ?_
                    refine EL_val (.int .i64 8) w172 rfl (r_assign rfl) ?_
                    refine EL_val (.int .u8 (b180.toNat : Int)) w172 rfl (r_assign rfl) ?_
                    refine EL_nil ?_
                    refine thn_n ?_
                    refine EC_heads 12 (by kernel_rfl) ?_
                    intro w183 B184 z185
                    have B186 : Below w.heap.size w w183 := below_full B176 B176.size B184
                    have B187 : Below w12.heap.size w12 w183 := below_full B177 B177.size B184
                    have B188 : Below w172.heap.size w172 w183 := B184
                    refine EG_take 0 rfl (by kernel_rfl) (by kernel_rfl) (by kernel_rfl) rfl 40 (by kernel_rfl) (.int .i64 8) rfl (r_move rfl) rfl ?_
                    refine EG_take 1 rfl (by kernel_rfl) (by kernel_rfl) (by kernel_rfl) rfl 40 (by kernel_rfl) (.int .i64 1) rfl (r_asn (by kernel_rfl) (r_quo rfl rfl (by decide))) rfl ?_
                    refine EG_take 2 rfl (by kernel_rfl) (by kernel_rfl) (by kernel_rfl) rfl 40 (by kernel_rfl) (ptr b18 1) rfl (r_indexA (i := 1) rfl rfl (by omega) (by omega) Try.underlying49 (by kernel_rfl)) rfl ?_
                    refine EG_take 3 rfl (by kernel_rfl) (by kernel_rfl) (by kernel_rfl) rfl 40 (by kernel_rfl) (.int .u64 0) rfl (r_loadA rfl (A173'.below B188) (u := .int .u64 0) rfl Try.underlying47 rfl) rfl ?_
                    refine EG_take 4 rfl (by kernel_rfl) (by kernel_rfl) (by kernel_rfl) rfl 40 (by kernel_rfl) (.int .u8 (b180.toNat : Int)) rfl (r_move rfl) rfl ?_
                    refine EG_take 5 rfl (by kernel_rfl) (by kernel_rfl) (by kernel_rfl) rfl 40 (by kernel_rfl) (.int .u64 (b180.toNat : Int)) rfl (r_asn (by omega) (r_convq 5 47 rfl Try.underlying5 Try.underlying47)) rfl ?_
                    refine EG_take 6 rfl (by kernel_rfl) (by kernel_rfl) (by kernel_rfl) rfl 40 (by kernel_rfl) (.int .i64 8) rfl (r_move rfl) rfl ?_
                    refine EG_take 7 rfl (by kernel_rfl) (by kernel_rfl) (by kernel_rfl) rfl 40 (by kernel_rfl) (.int .i64 0) rfl (r_asn (by kernel_rfl) (r_rem rfl rfl (by decide))) rfl ?_
                    refine EG_take 8 rfl (by kernel_rfl) (by kernel_rfl) (by kernel_rfl) rfl 40 (by kernel_rfl) (.int .i64 0) rfl (r_asn (by kernel_rfl) (r_mul rfl rfl)) rfl ?_
                    obtain ⟨x189, hx189⟩ : ∃ z : Int, z = (b180.toNat : Int) * 1 % 18446744073709551616 := ⟨_, rfl⟩
                    refine EG_take 9 rfl (by kernel_rfl) (by kernel_rfl) (by kernel_rfl) rfl 40 (by kernel_rfl) (.int .u64 x189) rfl (by rw [hx189]; exact r_shlq (n := 0) rfl rfl rfl (by decide) (by decide)) rfl ?_
                    obtain ⟨x190, hx190⟩ : ∃ z : Int, z = 0 + x189 := ⟨_, rfl⟩
                    refine EG_take 10 rfl (by kernel_rfl) (by kernel_rfl) (by kernel_rfl) rfl 40 (by kernel_rfl) (.int .u64 x190) rfl (by rw [hx190]; exact r_orq b180.toNat (0 : Int).toNat 0 rfl rfl (by omega) (by omega) (by omega) (by omega)) rfl ?_
                    refine EG_take 11 rfl (by kernel_rfl) (by kernel_rfl) (by kernel_rfl) rfl 40 (by kernel_rfl) (ptr b18 1) rfl (r_indexA (i := 1) rfl rfl (by omega) (by omega) Try.underlying49 (by kernel_rfl)) rfl ?_
                    refine EG_one 12 rfl (by kernel_rfl) (by kernel_rfl) ?_
                    refine EL_storeA (j := 1) (u := .int .u64 x190) rfl rfl (A173'.below B188) (by first | (simp; omega) | simp) rfl (by kernel_rfl) ?_
                    intro w191 A192 K193 z194
                    have A192' : Arr w191 b18 49 ((([x171, x190, 0] : List Int)).map (Value.int .u64)) := A192
                    have B195 : Below w.heap.size w w191 := below_kept B186 K193 (Nat.le_trans B17.size (Nat.le_of_eq k20.symm)) (B186.size)
                    have B196 : Below w12.heap.size w12 w191 := below_kept B187 K193 (Nat.le_trans (Nat.le_refl _) (Nat.le_of_eq k20.symm)) (B187.size)
                    have A197 : Arr w191 b11 49 ((List.replicate 3 0).map (Value.int .u64)) := (A178.below B188).grew K193 (by simp; omega)
                    refine EL_nil ?_
                    refine ⟨rfl, ?_⟩
                    refine EG_done (by kernel_rfl) ?_
                    refine inB_n ?_
                    refine thn_n ?_
                    refine EC_reg ?_
                    refine EL_val (.int .i64 9) w191 rfl (r_asn (by kernel_rfl) (r_add rfl rfl)) ?_
                    refine EL_val (.int .i64 9) w191 rfl (r_move rfl) ?_
                    refine EL_nil ?_
                    refine thn_n ?_
                    refine U_step ?_
                    refine EC_seq ?_
                    refine EC_reg ?_
                    refine EL_val (.bool (decide (9 < (b.length : Int)))) w191 rfl (r_lss rfl rfl) ?_
                    refine EL_nil ?_
                    refine thn_n ?_
                    refine EC_seq ?_
                    refine EC_if (p := 9 < (b.length : Int)) rfl (fun h198 => ?_) (fun h198 => ?_)
                    · refine EC_skip ?_
                      refine thn_n ?_
                      refine EC_seq ?_
                      refine EC_block ?_
                      refine EC_seq ?_
                      refine EC_reg ?_
                      refine EL_val (.int .i64 9) w191 rfl (r_move rfl) ?_
                      refine EL_val (.pointer (some (at_ v0 ((9 : Int).toNat)))) w191 rfl (r_index rfl (H0.below B195) rfl (by omega) (by first | omega | (simp; omega) | simp) Try.underlying22 (by kernel_rfl)) ?_
                      obtain ⟨b199, hb200⟩ := get_some (l := b) (j := (9 : Int).toNat) (by omega)
                      have hb201 := b199.toNat_lt
                      refine EL_val (.int .u8 (b199.toNat : Int)) w191 rfl (r_load rfl ((H0.below B195).cell (bs_get hb200)) Try.underlying5 rfl) ?_
                      refine EL_val (.int .i64 9) w191 rfl (r_assign rfl) ?_
                      refine EL_val (.int .u8 (b199.toNat : Int)) w191 rfl (r_assign rfl) ?_
                      refine EL_nil ?_
                      refine thn_n ?_
                      refine EC_heads 12 (by kernel_rfl) ?_
                      intro w202 B203 z204
                      have B205 : Below w.heap.size w w202 := below_full B195 B195.size B203
                      have B206 : Below w12.heap.size w12 w202 := below_full B196 B196.size B203
                      have B207 : Below w191.heap.size w191 w202 := B203
                      refine EG_take 0 rfl (by kernel_rfl) (by kernel_rfl) (by kernel_rfl) rfl 40 (by kernel_rfl) (.int .i64 9) rfl (r_move rfl) rfl ?_
                      refine EG_take 1 rfl (by kernel_rfl) (by kernel_rfl) (by kernel_rfl) rfl 40 (by kernel_rfl) (.int .i64 1) rfl (r_asn (by kernel_rfl) (r_quo rfl rfl (by decide))) rfl ?_
                      refine EG_take 2 rfl (by kernel_rfl) (by kernel_rfl) (by kernel_rfl) rfl 40 (by kernel_rfl) (ptr b18 1) rfl (r_indexA (i := 1) rfl rfl (by omega) (by omega) Try.underlying49 (by kernel_rfl)) rfl ?_
                      refine EG_take 3 rfl (by kernel_rfl) (by kernel_rfl) (by kernel_rfl) rfl 40 (by kernel_rfl) (.int .u64 x190) rfl (r_loadA rfl (A192'.below B207) (u := .int .u64 x190) rfl Try.underlying47 rfl) rfl ?_
                      refine EG_take 4 rfl (by kernel_rfl) (by kernel_rfl) (by kernel_rfl) rfl 40 (by kernel_rfl) (.int .u8 (b199.toNat : Int)) rfl (r_move rfl) rfl ?_
                      refine EG_take 5 rfl (by kernel_rfl) (by kernel_rfl) (by kernel_rfl) rfl 40 (by kernel_rfl) (.int .u64 (b199.toNat : Int)) rfl (r_asn (by omega) (r_convq 5 47 rfl Try.underlying5 Try.underlying47)) rfl ?_
                      refine EG_take 6 rfl (by kernel_rfl) (by kernel_rfl) (by kernel_rfl) rfl 40 (by kernel_rfl) (.int .i64 9) rfl (r_move rfl) rfl ?_
                      refine EG_take 7 rfl (by kernel_rfl) (by kernel_rfl) (by kernel_rfl) rfl 40 (by kernel_rfl) (.int .i64 1) rfl (r_asn (by kernel_rfl) (r_rem rfl rfl (by decide))) rfl ?_
                      refine EG_take 8 rfl (by kernel_rfl) (by kernel_rfl) (by kernel_rfl) rfl 40 (by kernel_rfl) (.int .i64 8) rfl (r_asn (by kernel_rfl) (r_mul rfl rfl)) rfl ?_
                      obtain ⟨x208, hx208⟩ : ∃ z : Int, z = (b199.toNat : Int) * 256 % 18446744073709551616 := ⟨_, rfl⟩
                      refine EG_take 9 rfl (by kernel_rfl) (by kernel_rfl) (by kernel_rfl) rfl 40 (by kernel_rfl) (.int .u64 x208) rfl (by rw [hx208]; exact r_shlq (n := 8) rfl rfl rfl (by decide) (by decide)) rfl ?_
                      obtain ⟨x209, hx209⟩ : ∃ z : Int, z = x190 + x208 := ⟨_, rfl⟩
                      refine EG_take 10 rfl (by kernel_rfl) (by kernel_rfl) (by kernel_rfl) rfl 40 (by kernel_rfl) (.int .u64 x209) rfl (by rw [hx209]; exact r_orq b199.toNat (x190 : Int).toNat 8 rfl rfl (by omega) (by omega) (by omega) (by omega)) rfl ?_
                      refine EG_take 11 rfl (by kernel_rfl) (by kernel_rfl) (by kernel_rfl) rfl 40 (by kernel_rfl) (ptr b18 1) rfl (r_indexA (i := 1) rfl rfl (by omega) (by omega) Try.underlying49 (by kernel_rfl)) rfl ?_
                      refine EG_one 12 rfl (by kernel_rfl) (by kernel_rfl) ?_
                      refine EL_storeA (j := 1) (u := .int .u64 x209) rfl rfl (A192'.below B207) (by first | (simp; omega) | simp) rfl (by kernel_rfl) ?_
                      intro w210 A211 K212 z213
                      have A211' : Arr w210 b18 49 ((([x171, x209, 0] : List Int)).map (Value.int .u64)) := A211
                      have B214 : Below w.heap.size w w210 := below_kept B205 K212 (Nat.le_trans B17.size (Nat.le_of_eq k20.symm)) (B205.size)
                      have B215 : Below w12.heap.size w12 w210 := below_kept B206 K212 (Nat.le_trans (Nat.le_refl _) (Nat.le_of_eq k20.symm)) (B206.size)
                      have A216 : Arr w210 b11 49 ((List.replicate 3 0).map (Value.int .u64)) := (A197.below B207).grew K212 (by simp; omega)
                      refine EL_nil ?_
                      refine ⟨rfl, ?_⟩
                      refine EG_done (by kernel_rfl) ?_
                      refine inB_n ?_
                      refine thn_n ?_
                      refine EC_reg ?_
                      refine EL_val (.int .i64 10) w210 rfl (r_asn (by kernel_rfl) (r_add rfl rfl)) ?_
                      refine EL_val (.int .i64 10) w210 rfl (r_move rfl) ?_
                      refine EL_nil ?_
                      refine thn_n ?_
                      refine U_step ?_
                      refine EC_seq ?_
                      refine EC_reg ?_
                      refine EL_val (.bool (decide (10 < (b.length : Int)))) w210 rfl (r_lss rfl rfl) ?_
                      refine EL_nil ?_
                      refine thn_n ?_
                      refine EC_seq ?_
                      refine EC_if (p := 10 < (b.length : Int)) rfl (fun h217 => ?_) (fun h217 => ?_)
                      · refine EC_skip ?_
                        refine thn_n ?_
                        refine EC_seq ?_
                        refine EC_block ?_
                        refine EC_seq ?_
                        refine EC_reg ?_
                        refine EL_val (.int .i64 10) w210 rfl (r_move rfl) ?_
                        refine EL_val (.pointer (some (at_ v0 ((10 : Int).toNat)))) w210 rfl (r_index rfl (H0.below B214) rfl (by omega) (by first | omega | (simp; omega) | simp) Try.underlying22 (by kernel_rfl)) ?_
                        obtain ⟨b218, hb219⟩ := get_some (l := b) (j := (10 : Int).toNat) (by omega)
                        have hb220 := b218.toNat_lt
                        refine EL_val (.int .u8 (b218.toNat : Int)) w210 rfl (r_load rfl ((H0.below B214).cell (bs_get hb219)) Try.underlying5 rfl) ?_
                        refine EL_val (.int .i64 10) w210 rfl (r_assign rfl) ?_
                        refine EL_val (.int .u8 (b218.toNat : Int)) w210 rfl (r_assign rfl) ?_
                        refine EL_nil ?_
                        refine thn_n ?_
                        refine EC_heads 12 (by kernel_rfl) ?_
                        intro w221 B222 z223
                        have B224 : Below w.heap.size w w221 := below_full B214 B214.size B222
                        have B225 : Below w12.heap.size w12 w221 := below_full B215 B215.size B222
                        have B226 : Below w210.heap.size w210 w221 := B222
                        refine EG_take 0 rfl (by kernel_rfl) (by kernel_rfl) (by kernel_rfl) rfl 40 (by kernel_rfl) (.int .i64 10) rfl (r_move rfl) rfl ?_
                        refine EG_take 1 rfl (by kernel_rfl) (by kernel_rfl) (by kernel_rfl) rfl 40 (by kernel_rfl) (.int .i64 1) rfl (r_asn (by kernel_rfl) (r_quo rfl rfl (by decide))) rfl ?_
                        refine EG_take 2 rfl (by kernel_rfl) (by kernel_rfl) (by kernel_rfl) rfl 40 (by kernel_rfl) (ptr b18 1) rfl (r_indexA (i := 1) rfl rfl (by omega) (by omega) Try.underlying49 (by kernel_rfl)) rfl ?_
                        refine EG_take 3 rfl (by kernel_rfl) (by kernel_rfl) (by kernel_rfl) rfl 40 (by kernel_rfl) (.int .u64 x209) rfl (r_loadA rfl (A211'.below B226) (u := .int .u64 x209) rfl Try.underlying47 rfl) rfl ?_
                        refine EG_take 4 rfl (by kernel_rfl) (by kernel_rfl) (by kernel_rfl) rfl 40 (by kernel_rfl) (.int .u8 (b218.toNat : Int)) rfl (r_move rfl) rfl ?_
                        refine EG_take 5 rfl (by kernel_rfl) (by kernel_rfl) (by kernel_rfl) rfl 40 (by kernel_rfl) (.int .u64 (b218.toNat : Int)) rfl (r_asn (by omega) (r_convq 5 47 rfl Try.underlying5 Try.underlying47)) rfl ?_
                        refine EG_take 6 rfl (by kernel_rfl) (by kernel_rfl) (by kernel_rfl) rfl 40 (by kernel_rfl) (.int .i64 10) rfl (r_move rfl) rfl ?_
                        refine EG_take 7 rfl (by kernel_rfl) (by kernel_rfl) (by kernel_rfl) rfl 40 (by kernel_rfl) (.int .i64 2) rfl (r_asn (by kernel_rfl) (r_rem rfl rfl (by decide))) rfl ?_
                        refine EG_take 8 rfl (by kernel_rfl) (by kernel_rfl) (by kernel_rfl) rfl 40 (by kernel_rfl) (.int .i64 16) rfl (r_asn (by kernel_rfl) (r_mul rfl rfl)) rfl ?_
                        obtain ⟨x227, hx227⟩ : ∃ z : Int, z = (b218.toNat : Int) * 65536 % 18446744073709551616 := ⟨_, rfl⟩
                        refine EG_take 9 rfl (by kernel_rfl) (by kernel_rfl) (by kernel_rfl) rfl 40 (by kernel_rfl) (.int .u64 x227) rfl (by rw [hx227]; exact r_shlq (n := 16) rfl rfl rfl (by decide) (by decide)) rfl ?_
                        obtain ⟨x228, hx228⟩ : ∃ z : Int, z = x209 + x227 := ⟨_, rfl⟩
                        refine EG_take 10 rfl (by kernel_rfl) (by kernel_rfl) (by kernel_rfl) rfl 40 (by kernel_rfl) (.int .u64 x228) rfl (by rw [hx228]; exact r_orq b218.toNat (x209 : Int).toNat 16 rfl rfl (by omega) (by omega) (by omega) (by omega)) rfl ?_
                        refine EG_take 11 rfl (by kernel_rfl) (by kernel_rfl) (by kernel_rfl) rfl 40 (by kernel_rfl) (ptr b18 1) rfl (r_indexA (i := 1) rfl rfl (by omega) (by omega) Try.underlying49 (by kernel_rfl)) rfl ?_
                        refine EG_one 12 rfl (by kernel_rfl) (by kernel_rfl) ?_
                        refine EL_storeA (j := 1) (u := .int .u64 x228) rfl rfl (A211'.below B226) (by first | (simp; omega) | simp) rfl (by kernel_rfl) ?_
                        intro w229 A230 K231 z232
                        have A230' : Arr w229 b18 49 ((([x171, x228, 0] : List Int)).map (Value.int .u64)) := A230
                        have B233 : Below w.heap.size w w229 := below_kept B224 K231 (Nat.le_trans B17.size (Nat.le_of_eq k20.symm)) (B224.size)
                        have B234 : Below w12.heap.size w12 w229 := below_kept B225 K231 (Nat.le_trans (Nat.le_refl _) (Nat.le_of_eq k20.symm)) (B225.size)
                        have A235 : Arr w229 b11 49 ((List.replicate 3 0).map (Value.int .u64)) := (A216.below B226).grew K231 (by simp; omega)
                        refine EL_nil ?_
                        refine ⟨rfl, ?_⟩
                        refine EG_done (by kernel_rfl) ?_
                        refine inB_n ?_
                        refine thn_n ?_
                        refine EC_reg ?_
                        refine EL_val (.int .i64 11) w229 rfl (r_asn (by kernel_rfl) (r_add rfl rfl)) ?_
                        refine EL_val (.int .i64 11) w229 rfl (r_move rfl) ?_
                        refine EL_nil ?_
                        refine thn_n ?_
                        refine U_step ?_
                        refine EC_seq ?_
                        refine EC_reg ?_
                        refine EL_val (.bool (decide (11 < (b.length : Int)))) w229 rfl (r_lss rfl rfl) ?_
                        refine EL_nil ?_
                        refine thn_n ?_
                        refine EC_seq ?_
                        refine EC_if (p := 11 < (b.length : Int)) rfl (fun h236 => ?_) (fun h236 => ?_)
                        · refine EC_skip ?_
                          refine thn_n ?_
                          refine EC_seq ?_
                          refine EC_block ?_
                          refine EC_seq ?_
                          refine EC_reg ?_
                          refine EL_val (.int .i64 11) w229 rfl (r_move rfl) ?_
                          refine EL_val (.pointer (some (at_ v0 ((11 : Int).toNat)))) w229 rfl (r_index rfl (H0.below B233) rfl (by omega) (by first | omega | (simp; omega) | simp) Try.underlying22 (by kernel_rfl)) ?_
                          obtain ⟨b237, hb238⟩ := get_some (l := b) (j := (11 : Int).toNat) (by omega)
                          have hb239 := b237.toNat_lt
                          refine EL_val (.int .u8 (b237.toNat : Int)) w229 rfl (r_load rfl ((H0.below B233).cell (bs_get hb238)) Try.underlying5 rfl) ?_
                          refine EL_val (.int .i64 11) w229 rfl (r_assign rfl) ?_
                          refine EL_val (.int .u8 (b237.toNat : Int)) w229 rfl (r_assign rfl) ?_
                          refine EL_nil ?_
                          refine thn_n ?_
                          refine EC_heads 12 (by kernel_rfl) ?_
                          intro w240 B241 z242
                          have B243 : Below w.heap.size w w240 := below_full B233 B233.size B241
                          have B244 : Below w12.heap.size w12 w240 := below_full B234 B234.size B241
                          have B245 : Below w229.heap.size w229 w240 := B241
                          refine EG_take 0 rfl (by kernel_rfl) (by kernel_rfl) (by kernel_rfl) rfl 40 (by kernel_rfl) (.int .i64 11) rfl (r_move rfl) rfl ?_
                          refine EG_take 1 rfl (by kernel_rfl) (by kernel_rfl) (by kernel_rfl) rfl 40 (by kernel_rfl) (.int .i64 1) rfl (r_asn (by kernel_rfl) (r_quo rfl rfl (by decide))) rfl ?_
                          refine EG_take 2 rfl (by kernel_rfl) (by kernel_rfl) (by kernel_rfl) rfl 40 (by kernel_rfl) (ptr b18 1) rfl (r_indexA (i := 1) rfl rfl (by omega) (by omega) Try.underlying49 (by kernel_rfl)) rfl ?_
                          refine EG_take 3 rfl (by kernel_rfl) (by kernel_rfl) (by kernel_rfl) rfl 40 (by kernel_rfl) (.int .u64 x228) rfl (r_loadA rfl (A230'.below B245) (u := .int .u64 x228) rfl Try.underlying47 rfl) rfl ?_
                          refine EG_take 4 rfl (by kernel_rfl) (by kernel_rfl) (by kernel_rfl) rfl 40 (by kernel_rfl) (.int .u8 (b237.toNat : Int)) rfl (r_move rfl) rfl ?_
                          refine EG_take 5 rfl (by kernel_rfl) (by kernel_rfl) (by kernel_rfl) rfl 40 (by kernel_rfl) (.int .u64 (b237.toNat : Int)) rfl (r_asn (by omega) (r_convq 5 47 rfl Try.underlying5 Try.underlying47)) rfl ?_
                          refine EG_take 6 rfl (by kernel_rfl) (by kernel_rfl) (by kernel_rfl) rfl 40 (by kernel_rfl) (.int .i64 11) rfl (r_move rfl) rfl ?_
                          refine EG_take 7 rfl (by kernel_rfl) (by kernel_rfl) (by kernel_rfl) rfl 40 (by kernel_rfl) (.int .i64 3) rfl (r_asn (by kernel_rfl) (r_rem rfl rfl (by decide))) rfl ?_
                          refine EG_take 8 rfl (by kernel_rfl) (by kernel_rfl) (by kernel_rfl) rfl 40 (by kernel_rfl) (.int .i64 24) rfl (r_asn (by kernel_rfl) (r_mul rfl rfl)) rfl ?_
                          obtain ⟨x246, hx246⟩ : ∃ z : Int, z = (b237.toNat : Int) * 16777216 % 18446744073709551616 := ⟨_, rfl⟩
                          refine EG_take 9 rfl (by kernel_rfl) (by kernel_rfl) (by kernel_rfl) rfl 40 (by kernel_rfl) (.int .u64 x246) rfl (by rw [hx246]; exact r_shlq (n := 24) rfl rfl rfl (by decide) (by decide)) rfl ?_
                          obtain ⟨x247, hx247⟩ : ∃ z : Int, z = x228 + x246 := ⟨_, rfl⟩
                          refine EG_take 10 rfl (by kernel_rfl) (by kernel_rfl) (by kernel_rfl) rfl 40 (by kernel_rfl) (.int .u64 x247) rfl (by rw [hx247]; exact r_orq b237.toNat (x228 : Int).toNat 24 rfl rfl (by omega) (by omega) (by omega) (by omega)) rfl ?_
                          refine EG_take 11 rfl (by kernel_rfl) (by kernel_rfl) (by kernel_rfl) rfl 40 (by kernel_rfl) (ptr b18 1) rfl (r_indexA (i := 1) rfl rfl (by omega) (by omega) Try.underlying49 (by kernel_rfl)) rfl ?_
                          refine EG_one 12 rfl (by kernel_rfl) (by kernel_rfl) ?_
                          refine EL_storeA (j := 1) (u := .int .u64 x247) rfl rfl (A230'.below B245) (by first | (simp; omega) | simp) rfl (by kernel_rfl) ?_
                          intro w248 A249 K250 z251
                          have A249' : Arr w248 b18 49 ((([x171, x247, 0] : List Int)).map (Value.int .u64)) := A249
                          have B252 : Below w.heap.size w w248 := below_kept B243 K250 (Nat.le_trans B17.size (Nat.le_of_eq k20.symm)) (B243.size)
                          have B253 : Below w12.heap.size w12 w248 := below_kept B244 K250 (Nat.le_trans (Nat.le_refl _) (Nat.le_of_eq k20.symm)) (B244.size)
                          have A254 : Arr w248 b11 49 ((List.replicate 3 0).map (Value.int .u64)) := (A235.below B245).grew K250 (by simp; omega)
                          refine EL_nil ?_
                          refine ⟨rfl, ?_⟩
                          refine EG_done (by kernel_rfl) ?_
                          refine inB_n ?_
                          refine thn_n ?_
                          refine EC_reg ?_
                          refine EL_val (.int .i64 12) w248 rfl (r_asn (by kernel_rfl) (r_add rfl rfl)) ?_
                          refine EL_val (.int .i64 12) w248 rfl (r_move rfl) ?_
                          refine EL_nil ?_
                          refine thn_n ?_
                          refine U_step ?_
                          refine EC_seq ?_
                          refine EC_reg ?_
                          refine EL_val (.bool (decide (12 < (b.length : Int)))) w248 rfl (r_lss rfl rfl) ?_
                          refine EL_nil ?_
                          refine thn_n ?_
                          refine EC_seq ?_
                          refine EC_if (p := 12 < (b.length : Int)) rfl (fun h255 => ?_) (fun h255 => ?_)
                          · refine EC_skip ?_
                            refine thn_n ?_
                            refine EC_seq ?_
                            refine EC_block ?_
                            refine EC_seq ?_
                            refine EC_reg ?_
                            refine EL_val (.int .i64 12) w248 rfl (r_move rfl) ?_
                            refine EL_val (.pointer (some (at_ v0 ((12 : Int).toNat)))) w248 rfl (r_index rfl (H0.below B252) rfl (by omega) (by first | omega | (simp; omega) | simp) Try.underlying22 (by kernel_rfl)) ?_
                            obtain ⟨b256, hb257⟩ := get_some (l := b) (j := (12 : Int).toNat) (by omega)
                            have hb258 := b256.toNat_lt
                            refine EL_val (.int .u8 (b256.toNat : Int)) w248 rfl (r_load rfl ((H0.below B252).cell (bs_get hb257)) Try.underlying5 rfl) ?_
                            refine EL_val (.int .i64 12) w248 rfl (r_assign rfl) ?_
                            refine EL_val (.int .u8 (b256.toNat : Int)) w248 rfl (r_assign rfl) ?_
                            refine EL_nil ?_
                            refine thn_n ?_
                            refine EC_heads 12 (by kernel_rfl) ?_
                            intro w259 B260 z261
                            have B262 : Below w.heap.size w w259 := below_full B252 B252.size B260
                            have B263 : Below w12.heap.size w12 w259 := below_full B253 B253.size B260
                            have B264 : Below w248.heap.size w248 w259 := B260
                            refine EG_take 0 rfl (by kernel_rfl) (by kernel_rfl) (by kernel_rfl) rfl 40 (by kernel_rfl) (.int .i64 12) rfl (r_move rfl) rfl ?_
                            refine EG_take 1 rfl (by kernel_rfl) (by kernel_rfl) (by kernel_rfl) rfl 40 (by kernel_rfl) (.int .i64 1) rfl (r_asn (by kernel_rfl) (r_quo rfl rfl (by decide))) rfl ?_
                            refine EG_take 2 rfl (by kernel_rfl) (by kernel_rfl) (by kernel_rfl) rfl 40 (by kernel_rfl) (ptr b18 1) rfl (r_indexA (i := 1) rfl rfl (by omega) (by omega) Try.underlying49 (by kernel_rfl)) rfl ?_
                            refine EG_take 3 rfl (by kernel_rfl) (by kernel_rfl) (by kernel_rfl) rfl 40 (by kernel_rfl) (.int .u64 x247) rfl (r_loadA rfl (A249'.below B264) (u := .int .u64 x247) rfl Try.underlying47 rfl) rfl ?_
                            refine EG_take 4 rfl (by kernel_rfl) (by kernel_rfl) (by kernel_rfl) rfl 40 (by kernel_rfl) (.int .u8 (b256.toNat : Int)) rfl (r_move rfl) rfl ?_
                            refine EG_take 5 rfl (by kernel_rfl) (by kernel_rfl) (by kernel_rfl) rfl 40 (by kernel_rfl) (.int .u64 (b256.toNat : Int)) rfl (r_asn (by omega) (r_convq 5 47 rfl Try.underlying5 Try.underlying47)) rfl ?_
                            refine EG_take 6 rfl (by kernel_rfl) (by kernel_rfl) (by kernel_rfl) rfl 40 (by kernel_rfl) (.int .i64 12) rfl (r_move rfl) rfl ?_
                            refine EG_take 7 rfl (by kernel_rfl) (by kernel_rfl) (by kernel_rfl) rfl 40 (by kernel_rfl) (.int .i64 4) rfl (r_asn (by kernel_rfl) (r_rem rfl rfl (by decide))) rfl ?_
                            refine EG_take 8 rfl (by kernel_rfl) (by kernel_rfl) (by kernel_rfl) rfl 40 (by kernel_rfl) (.int .i64 32) rfl (r_asn (by kernel_rfl) (r_mul rfl rfl)) rfl ?_
                            obtain ⟨x265, hx265⟩ : ∃ z : Int, z = (b256.toNat : Int) * 4294967296 % 18446744073709551616 := ⟨_, rfl⟩
                            refine EG_take 9 rfl (by kernel_rfl) (by kernel_rfl) (by kernel_rfl) rfl 40 (by kernel_rfl) (.int .u64 x265) rfl (by rw [hx265]; exact r_shlq (n := 32) rfl rfl rfl (by decide) (by decide)) rfl ?_
                            obtain ⟨x266, hx266⟩ : ∃ z : Int, z = x247 + x265 := ⟨_, rfl⟩
                            refine EG_take 10 rfl (by kernel_rfl) (by kernel_rfl) (by kernel_rfl) rfl 40 (by kernel_rfl) (.int .u64 x266) rfl (by rw [hx266]; exact r_orq b256.toNat (x247 : Int).toNat 32 rfl rfl (by omega) (by omega) (by omega) (by omega)) rfl ?_
                            refine EG_take 11 rfl (by kernel_rfl) (by kernel_rfl) (by kernel_rfl) rfl 40 (by kernel_rfl) (ptr b18 1) rfl (r_indexA (i := 1) rfl rfl (by omega) (by omega) Try.underlying49 (by kernel_rfl)) rfl ?_
                            refine EG_one 12 rfl (by kernel_rfl) (by kernel_rfl) ?_
                            refine EL_storeA (j := 1) (u := .int .u64 x266) rfl rfl (A249'.below B264) (by first | (simp; omega) | simp) rfl (by kernel_rfl) ?_
                            intro w267 A268 K269 z270
                            have A268' : Arr w267 b18 49 ((([x171, x266, 0] : List Int)).map (Value.int .u64)) := A268
                            have B271 : Below w.heap.size w w267 := below_kept B262 K269 (Nat.le_trans B17.size (Nat.le_of_eq k20.symm)) (B262.size)
                            have B272 : Below w12.heap.size w12 w267 := below_kept B263 K269 (Nat.le_trans (Nat.le_refl _) (Nat.le_of_eq k20.symm)) (B263.size)
                            have A273 : Arr w267 b11 49 ((List.replicate 3 0).map (Value.int .u64)) := (A254.below B264).grew K269 (by simp; omega)
                            refine EL_nil ?_
                            refine ⟨rfl, ?_⟩
                            refine EG_done (by kernel_rfl) ?_
                            refine inB_n ?_
                            refine thn_n ?_
                            refine EC_reg ?_
                            refine EL_val (.int .i64 13) w267 rfl (r_asn (by kernel_rfl) (r_add rfl rfl)) ?_
                            refine EL_val (.int .i64 13) w267 rfl (r_move rfl) ?_
                            refine EL_nil ?_
                            refine thn_n ?_
                            refine U_step ?_
                            refine EC_seq ?_
                            refine EC_reg ?_
                            refine EL_val (.bool (decide (13 < (b.length : Int)))) w267 rfl (r_lss rfl rfl) ?_
                            refine EL_nil ?_
                            refine thn_n ?_
                            refine EC_seq ?_
                            refine EC_if (p := 13 < (b.length : Int)) rfl (fun h274 => ?_) (fun h274 => ?_)
                            · refine EC_skip ?_
                              refine thn_n ?_
                              refine EC_seq ?_
                              refine EC_block ?_
                              refine EC_seq ?_
                              refine EC_reg ?_
                              refine EL_val (.int .i64 13) w267 rfl (r_move rfl) ?_
                              refine EL_val (.pointer (some (at_ v0 ((13 : Int).toNat)))) w267 rfl (r_index rfl (H0.below B271) rfl (by omega) (by first | omega | (simp; omega) | simp) Try.underlying22 (by kernel_rfl)) ?_
                              obtain ⟨b275, hb276⟩ := get_some (l := b) (j := (13 : Int).toNat) (by omega)
                              have hb277 := b275.toNat_lt
                              refine EL_val (.int .u8 (b275.toNat : Int)) w267 rfl (r_load rfl ((H0.below B271).cell (bs_get hb276)) Try.underlying5 rfl) ?_
                              refine EL_val (.int .i64 13) w267 rfl (r_assign rfl) ?_
                              refine EL_val (.int .u8 (b275.toNat : Int)) w267 rfl (r_assign rfl) ?_
                              refine EL_nil ?_
                              refine thn_n ?_
                              refine EC_heads 12 (by kernel_rfl) ?_
                              intro w278 B279 z280
                              have B281 : Below w.heap.size w w278 := below_full B271 B271.size B279
                              have B282 : Below w12.heap.size w12 w278 := below_full B272 B272.size B279
                              have B283 : Below w267.heap.size w267 w278 := B279
                              refine EG_take 0 rfl (by kernel_rfl) (by kernel_rfl) (by kernel_rfl) rfl 40 (by kernel_rfl) (.int .i64 13) rfl (r_move rfl) rfl ?_
                              refine EG_take 1 rfl (by kernel_rfl) (by kernel_rfl) (by kernel_rfl) rfl 40 (by kernel_rfl) (.int .i64 1) rfl (r_asn (by kernel_rfl) (r_quo rfl rfl (by decide))) rfl ?_
                              refine EG_take 2 rfl (by kernel_rfl) (by kernel_rfl) (by kernel_rfl) rfl 40 (by kernel_rfl) (ptr b18 1) rfl (r_indexA (i := 1) rfl rfl (by omega) (by omega) Try.underlying49 (by kernel_rfl)) rfl ?_
                              refine EG_take 3 rfl (by kernel_rfl) (by kernel_rfl) (by kernel_rfl) rfl 40 (by kernel_rfl) (.int .u64 x266) rfl (r_loadA rfl (A268'.below B283) (u := .int .u64 x266) rfl Try.underlying47 rfl) rfl ?_
                              refine EG_take 4 rfl (by kernel_rfl) (by kernel_rfl) (by kernel_rfl) rfl 40 (by kernel_rfl) (.int .u8 (b275.toNat : Int)) rfl (r_move rfl) rfl ?_
                              refine EG_take 5 rfl (by kernel_rfl) (by kernel_rfl) (by kernel_rfl) rfl 40 (by kernel_rfl) (.int .u64 (b275.toNat : Int)) rfl (r_asn (by omega) (r_convq 5 47 rfl Try.underlying5 Try.underlying47)) rfl ?_
                              refine EG_take 6 rfl (by kernel_rfl) (by kernel_rfl) (by kernel_rfl) rfl 40 (by kernel_rfl) (.int .i64 13) rfl (r_move rfl) rfl ?_
                              refine EG_take 7 rfl (by kernel_rfl) (by kernel_rfl) (by kernel_rfl) rfl 40 (by kernel_rfl) (.int .i64 5) rfl (r_asn (by kernel_rfl) (r_rem rfl rfl (by decide))) rfl ?_
                              refine EG_take 8 rfl (by kernel_rfl) (by kernel_rfl) (by kernel_rfl) rfl 40 (by kernel_rfl) (.int .i64 40) rfl (r_asn (by kernel_rfl) (r_mul rfl rfl)) rfl ?_
                              obtain ⟨x284, hx284⟩ : ∃ z : Int, z = (b275.toNat : Int) * 1099511627776 % 18446744073709551616 := ⟨_, rfl⟩
                              refine EG_take 9 rfl (by kernel_rfl) (by kernel_rfl) (by kernel_rfl) rfl 40 (by kernel_rfl) (.int .u64 x284) rfl (by rw [hx284]; exact r_shlq (n := 40) rfl rfl rfl (by decide) (by decide)) rfl ?_
                              obtain ⟨x285, hx285⟩ : ∃ z : Int, z = x266 + x284 := ⟨_, rfl⟩
                              refine EG_take 10 rfl (by kernel_rfl) (by kernel_rfl) (by kernel_rfl) rfl 40 (by kernel_rfl) (.int .u64 x285) rfl (by rw [hx285]; exact r_orq b275.toNat (x266 : Int).toNat 40 rfl rfl (by omega) (by omega) (by omega) (by omega)) rfl ?_
                              refine EG_take 11 rfl (by kernel_rfl) (by kernel_rfl) (by kernel_rfl) rfl 40 (by kernel_rfl) (ptr b18 1) rfl (r_indexA (i := 1) rfl rfl (by omega) (by omega) Try.underlying49 (by kernel_rfl)) rfl ?_
                              refine EG_one 12 rfl (by kernel_rfl) (by kernel_rfl) ?_
                              refine EL_storeA (j := 1) (u := .int .u64 x285) rfl rfl (A268'.below B283) (by first | (simp; omega) | simp) rfl (by kernel_rfl) ?_
                              intro w286 A287 K288 z289
                              have A287' : Arr w286 b18 49 ((([x171, x285, 0] : List Int)).map (Value.int .u64)) := A287
                              have B290 : Below w.heap.size w w286 := below_kept B281 K288 (Nat.le_trans B17.size (Nat.le_of_eq k20.symm)) (B281.size)
                              have B291 : Below w12.heap.size w12 w286 := below_kept B282 K288 (Nat.le_trans (Nat.le_refl _) (Nat.le_of_eq k20.symm)) (B282.size)
                              have A292 : Arr w286 b11 49 ((List.replicate 3 0).map (Value.int .u64)) := (A273.below B283).grew K288 (by simp; omega)
                              refine EL_nil ?_
                              refine ⟨rfl, ?_⟩
                              refine EG_done (by kernel_rfl) ?_
                              refine inB_n ?_
                              refine thn_n ?_
                              refine EC_reg ?_
                              refine EL_val (.int .i64 14) w286 rfl (r_asn (by kernel_rfl) (r_add rfl rfl)) ?_
                              refine EL_val (.int .i64 14) w286 rfl (r_move rfl) ?_
                              refine EL_nil ?_
                              refine thn_n ?_
                              refine U_step ?_
                              refine EC_seq ?_
                              refine EC_reg ?_
                              refine EL_val (.bool (decide (14 < (b.length : Int)))) w286 rfl (r_lss rfl rfl) ?_
                              refine EL_nil ?_
                              refine thn_n ?_
                              refine EC_seq ?_
                              refine EC_if (p := 14 < (b.length : Int)) rfl (fun h293 => ?_) (fun h293 => ?_)
                              · refine EC_skip ?_
                                refine thn_n ?_
                                refine EC_seq ?_
                                refine EC_block ?_
                                refine EC_seq ?_
                                refine EC_reg ?_
                                refine EL_val (.int .i64 14) w286 rfl (r_move rfl) ?_
                                refine EL_val (.pointer (some (at_ v0 ((14 : Int).toNat)))) w286 rfl (r_index rfl (H0.below B290) rfl (by omega) (by first | omega | (simp; omega) | simp) Try.underlying22 (by kernel_rfl)) ?_
                                obtain ⟨b294, hb295⟩ := get_some (l := b) (j := (14 : Int).toNat) (by omega)
                                have hb296 := b294.toNat_lt
                                refine EL_val (.int .u8 (b294.toNat : Int)) w286 rfl (r_load rfl ((H0.below B290).cell (bs_get hb295)) Try.underlying5 rfl) ?_
                                refine EL_val (.int .i64 14) w286 rfl (r_assign rfl) ?_
                                refine EL_val (.int .u8 (b294.toNat : Int)) w286 rfl (r_assign rfl) ?_
                                refine EL_nil ?_
                                refine thn_n ?_
                                refine EC_heads 12 (by kernel_rfl) ?_
                                intro w297 B298 z299
                                have B300 : Below w.heap.size w w297 := below_full B290 B290.size B298
                                have B301 : Below w12.heap.size w12 w297 := below_full B291 B291.size B298
                                have B302 : Below w286.heap.size w286 w297 := B298
                                refine EG_take 0 rfl (by kernel_rfl) (by kernel_rfl) (by kernel_rfl) rfl 40 (by kernel_rfl) (.int .i64 14) rfl (r_move rfl) rfl ?_
                                refine EG_take 1 rfl (by kernel_rfl) (by kernel_rfl) (by kernel_rfl) rfl 40 (by kernel_rfl) (.int .i64 1) rfl (r_asn (by kernel_rfl) (r_quo rfl rfl (by decide))) rfl ?_
                                refine EG_take 2 rfl (by kernel_rfl) (by kernel_rfl) (by kernel_rfl) rfl 40 (by kernel_rfl) (ptr b18 1) rfl (r_indexA (i := 1) rfl rfl (by omega) (by omega) Try.underlying49 (by kernel_rfl)) rfl ?_
                                refine EG_take 3 rfl (by kernel_rfl) (by kernel_rfl) (by kernel_rfl) rfl 40 (by kernel_rfl) (.int .u64 x285) rfl (r_loadA rfl (A287'.below B302) (u := .int .u64 x285) rfl Try.underlying47 rfl) rfl ?_
                                refine EG_take 4 rfl (by kernel_rfl) (by kernel_rfl) (by kernel_rfl) rfl 40 (by kernel_rfl) (.int .u8 (b294.toNat : Int)) rfl (r_move rfl) rfl ?_
                                refine EG_take 5 rfl (by kernel_rfl) (by kernel_rfl) (by kernel_rfl) rfl 40 (by kernel_rfl) (.int .u64 (b294.toNat : Int)) rfl (r_asn (by omega) (r_convq 5 47 rfl Try.underlying5 Try.underlying47)) rfl ?_
                                refine EG_take 6 rfl (by kernel_rfl) (by kernel_rfl) (by kernel_rfl) rfl 40 (by kernel_rfl) (.int .i64 14) rfl (r_move rfl) rfl ?_
                                refine EG_take 7 rfl (by kernel_rfl) (by kernel_rfl) (by kernel_rfl) rfl 40 (by kernel_rfl) (.int .i64 6) rfl (r_asn (by kernel_rfl) (r_rem rfl rfl (by decide))) rfl ?_
                                refine EG_take 8 rfl (by kernel_rfl) (by kernel_rfl) (by kernel_rfl) rfl 40 (by kernel_rfl) (.int .i64 48) rfl (r_asn (by kernel_rfl) (r_mul rfl rfl)) rfl ?_
                                obtain ⟨x303, hx303⟩ : ∃ z : Int, z = (b294.toNat : Int) * 281474976710656 % 18446744073709551616 := ⟨_, rfl⟩
                                refine EG_take 9 rfl (by kernel_rfl) (by kernel_rfl) (by kernel_rfl) rfl 40 (by kernel_rfl) (.int .u64 x303) rfl (by rw [hx303]; exact r_shlq (n := 48) rfl rfl rfl (by decide) (by decide)) rfl ?_
                                obtain ⟨x304, hx304⟩ : ∃ z : Int, z = x285 + x303 := ⟨_, rfl⟩
                                refine EG_take 10 rfl (by kernel_rfl) (by kernel_rfl) (by kernel_rfl) rfl 40 (by kernel_rfl) (.int .u64 x304) rfl (by rw [hx304]; exact r_orq b294.toNat (x285 : Int).toNat 48 rfl rfl (by omega) (by omega) (by omega) (by omega)) rfl ?_
                                refine EG_take 11 rfl (by kernel_rfl) (by kernel_rfl) (by kernel_rfl) rfl 40 (by kernel_rfl) (ptr b18 1) rfl (r_indexA (i := 1) rfl rfl (by omega) (by omega) Try.underlying49 (by kernel_rfl)) rfl ?_
                                refine EG_one 12 rfl (by kernel_rfl) (by kernel_rfl) ?_
                                refine EL_storeA (j := 1) (u := .int .u64 x304) rfl rfl (A287'.below B302) (by first | (simp; omega) | simp) rfl (by kernel_rfl) ?_
                                intro w305 A306 K307 z308
                                have A306' : Arr w305 b18 49 ((([x171, x304, 0] : List Int)).map (Value.int .u64)) := A306
                                have B309 : Below w.heap.size w w305 := below_kept B300 K307 (Nat.le_trans B17.size (Nat.le_of_eq k20.symm)) (B300.size)
                                have B310 : Below w12.heap.size w12 w305 := below_kept B301 K307 (Nat.le_trans (Nat.le_refl _) (Nat.le_of_eq k20.symm)) (B301.size)
                                have A311 : Arr w305 b11 49 ((List.replicate 3 0).map (Value.int .u64)) := (A292.below B302).grew K307 (by simp; omega)
                                refine EL_nil ?_
                                refine ⟨rfl, ?_⟩
                                refine EG_done (by kernel_rfl) ?_
                                refine inB_n ?_
                                refine thn_n ?_
                                refine EC_reg ?_
                                refine EL_val (.int .i64 15) w305 rfl (r_asn (by kernel_rfl) (r_add rfl rfl)) ?_
                                refine EL_val (.int .i64 15) w305 rfl (r_move rfl) ?_
                                refine EL_nil ?_
                                refine thn_n ?_
                                refine U_step ?_
                                refine EC_seq ?_
                                refine EC_reg ?_
                                refine EL_val (.bool (decide (15 < (b.length : Int)))) w305 rfl (r_lss rfl rfl) ?_
                                refine EL_nil ?_
                                refine thn_n ?_
                                refine EC_seq ?_
                                refine EC_if (p := 15 < (b.length : Int)) rfl (fun h312 => ?_) (fun h312 => ?_)
                                · refine EC_skip ?_
                                  refine thn_n ?_
                                  refine EC_seq ?_
                                  refine EC_block ?_
                                  refine EC_seq ?_
                                  refine EC_reg ?_
                                  refine EL_val (.int .i64 15) w305 rfl (r_move rfl) ?_
                                  refine EL_val (.pointer (some (at_ v0 ((15 : Int).toNat)))) w305 rfl (r_index rfl (H0.below B309) rfl (by omega) (by first | omega | (simp; omega) | simp) Try.underlying22 (by kernel_rfl)) ?_
                                  obtain ⟨b313, hb314⟩ := get_some (l := b) (j := (15 : Int).toNat) (by omega)
                                  have hb315 := b313.toNat_lt
                                  refine EL_val (.int .u8 (b313.toNat : Int)) w305 rfl (r_load rfl ((H0.below B309).cell (bs_get hb314)) Try.underlying5 rfl) ?_
                                  refine EL_val (.int .i64 15) w305 rfl (r_assign rfl) ?_
                                  refine EL_val (.int .u8 (b313.toNat : Int)) w305 rfl (r_assign rfl) ?_
                                  refine EL_nil ?_
                                  refine thn_n ?_
                                  refine EC_heads 12 (by kernel_rfl) ?_
                                  intro w316 B317 z318
                                  have B319 : Below w.heap.size w w316 := below_full B309 B309.size B317
                                  have B320 : Below w12.heap.size w12 w316 := below_full B310 B310.size B317
                                  have B321 : Below w305.heap.size w305 w316 := B317
                                  refine EG_take 0 rfl (by kernel_rfl) (by kernel_rfl) (by kernel_rfl) rfl 40 (by kernel_rfl) (.int .i64 15) rfl (r_move rfl) rfl ?_
                                  refine EG_take 1 rfl (by kernel_rfl) (by kernel_rfl) (by kernel_rfl) rfl 40 (by kernel_rfl) (.int .i64 1) rfl (r_asn (by kernel_rfl) (r_quo rfl rfl (by decide))) rfl ?_
                                  refine EG_take 2 rfl (by kernel_rfl) (by kernel_rfl) (by kernel_rfl) rfl 40 (by kernel_rfl) (ptr b18 1) rfl (r_indexA (i := 1) rfl rfl (by omega) (by omega) Try.underlying49 (by kernel_rfl)) rfl ?_
                                  refine EG_take 3 rfl (by kernel_rfl) (by kernel_rfl) (by kernel_rfl) rfl 40 (by kernel_rfl) (.int .u64 x304) rfl (r_loadA rfl (A306'.below B321) (u := .int .u64 x304) rfl Try.underlying47 rfl) rfl ?_
                                  refine EG_take 4 rfl (by kernel_rfl) (by kernel_rfl) (by kernel_rfl) rfl 40 (by kernel_rfl) (.int .u8 (b313.toNat : Int)) rfl (r_move rfl) rfl ?_
                                  refine EG_take 5 rfl (by kernel_rfl) (by kernel_rfl) (by kernel_rfl) rfl 40 (by kernel_rfl) (.int .u64 (b313.toNat : Int)) rfl (r_asn (by omega) (r_convq 5 47 rfl Try.underlying5 Try.underlying47)) rfl ?_
                                  refine EG_take 6 rfl (by kernel_rfl) (by kernel_rfl) (by kernel_rfl) rfl 40 (by kernel_rfl) (.int .i64 15) rfl (r_move rfl) rfl ?_
                                  refine EG_take 7 rfl (by kernel_rfl) (by kernel_rfl) (by kernel_rfl) rfl 40 (by kernel_rfl) (.int .i64 7) rfl (r_asn (by kernel_rfl) (r_rem rfl rfl (by decide))) rfl ?_
                                  refine EG_take 8 rfl (by kernel_rfl) (by kernel_rfl) (by kernel_rfl) rfl 40 (by kernel_rfl) (.int .i64 56) rfl (r_asn (by kernel_rfl) (r_mul rfl rfl)) rfl ?_
                                  obtain ⟨x322, hx322⟩ : ∃ z : Int, z = (b313.toNat : Int) * 72057594037927936 % 18446744073709551616 := ⟨_, rfl⟩
                                  refine EG_take 9 rfl (by kernel_rfl) (by kernel_rfl) (by kernel_rfl) rfl 40 (by kernel_rfl) (.int .u64 x322) rfl (by rw [hx322]; exact r_shlq (n := 56) rfl rfl rfl (by decide) (by decide)) rfl ?_
                                  obtain ⟨x323, hx323⟩ : ∃ z : Int, z = x304 + x322 := ⟨_, rfl⟩
                                  refine EG_take 10 rfl (by kernel_rfl) (by kernel_rfl) (by kernel_rfl) rfl 40 (by kernel_rfl) (.int .u64 x323) rfl (by rw [hx323]; exact r_orq b313.toNat (x304 : Int).toNat 56 rfl rfl (by omega) (by omega) (by omega) (by omega)) rfl ?_
                                  refine EG_take 11 rfl (by kernel_rfl) (by kernel_rfl) (by kernel_rfl) rfl 40 (by kernel_rfl) (ptr b18 1) rfl (r_indexA (i := 1) rfl rfl (by omega) (by omega) Try.underlying49 (by kernel_rfl)) rfl ?_
                                  refine EG_one 12 rfl (by kernel_rfl) (by kernel_rfl) ?_
                                  refine EL_storeA (j := 1) (u := .int .u64 x323) rfl rfl (A306'.below B321) (by first | (simp; omega) | simp) rfl (by kernel_rfl) ?_
                                  intro w324 A325 K326 z327
                                  have A325' : Arr w324 b18 49 ((([x171, x323, 0] : List Int)).map (Value.int .u64)) := A325
                                  have B328 : Below w.heap.size w w324 := below_kept B319 K326 (Nat.le_trans B17.size (Nat.le_of_eq k20.symm)) (B319.size)
                                  have B329 : Below w12.heap.size w12 w324 := below_kept B320 K326 (Nat.le_trans (Nat.le_refl _) (Nat.le_of_eq k20.symm)) (B320.size)
                                  have A330 : Arr w324 b11 49 ((List.replicate 3 0).map (Value.int .u64)) := (A311.below B321).grew K326 (by simp; omega)
                                  refine EL_nil ?_
                                  refine ⟨rfl, ?_⟩
                                  refine EG_done (by kernel_rfl) ?_
                                  refine inB_n ?_
                                  refine thn_n ?_
                                  refine EC_reg ?_
                                  refine EL_val (.int .i64 16) w324 rfl (r_asn (by kernel_rfl) (r_add rfl rfl)) ?_
                                  refine EL_val (.int .i64 16) w324 rfl (r_move rfl) ?_
                                  refine EL_nil ?_
                                  refine thn_n ?_
                                  refine U_step ?_
                                  refine EC_seq ?_
                                  refine EC_reg ?_
                                  refine EL_val (.bool (decide (16 < (b.length : Int)))) w324 rfl (r_lss rfl rfl) ?_
                                  refine EL_nil ?_
                                  refine thn_n ?_
                                  refine EC_seq ?_
                                  refine EC_if (p := 16 < (b.length : Int)) rfl (fun h331 => ?_) (fun h331 => ?_)
                                  · refine EC_skip ?_
                                    refine thn_n ?_
                                    refine EC_seq ?_
                                    refine EC_block ?_
                                    refine EC_seq ?_
                                    refine EC_reg ?_
                                    refine EL_val (.int .i64 16) w324 rfl (r_move rfl) ?_
                                    refine EL_val (.pointer (some (at_ v0 ((16 : Int).toNat)))) w324 rfl (r_index rfl (H0.below B328) rfl (by omega) (by first | omega | (simp; omega) | simp) Try.underlying22 (by kernel_rfl)) ?_
                                    obtain ⟨b332, hb333⟩ := get_some (l := b) (j := (16 : Int).toNat) (by omega)
                                    have hb334 := b332.toNat_lt
                                    refine EL_val (.int .u8 (b332.toNat : Int)) w324 rfl (r_load rfl ((H0.below B328).cell (bs_get hb333)) Try.underlying5 rfl) ?_
                                    refine EL_val (.int .i64 16) w324 rfl (r_assign rfl) ?_
                                    refine EL_val (.int .u8 (b332.toNat : Int)) w324 rfl (r_assign rfl) ?_
                                    refine EL_nil ?_
                                    refine thn_n ?_
                                    refine EC_heads 12 (by kernel_rfl) ?_
                                    intro w335 B336 z337
                                    have B338 : Below w.heap.size w w335 := below_full B328 B328.size B336
                                    have B339 : Below w12.heap.size w12 w335 := below_full B329 B329.size B336
                                    have B340 : Below w324.heap.size w324 w335 := B336
                                    refine EG_take 0 rfl (by kernel_rfl) (by kernel_rfl) (by kernel_rfl) rfl 40 (by kernel_rfl) (.int .i64 16) rfl (r_move rfl) rfl ?_
                                    refine EG_take 1 rfl (by kernel_rfl) (by kernel_rfl) (by kernel_rfl) rfl 40 (by kernel_rfl) (.int .i64 2) rfl (r_asn (by kernel_rfl) (r_quo rfl rfl (by decide))) rfl ?_
                                    refine EG_take 2 rfl (by kernel_rfl) (by kernel_rfl) (by kernel_rfl) rfl 40 (by kernel_rfl) (ptr b18 2) rfl (r_indexA (i := 2) rfl rfl (by omega) (by omega) Try.underlying49 (by kernel_rfl)) rfl ?_
                                    refine EG_take 3 rfl (by kernel_rfl) (by kernel_rfl) (by kernel_rfl) rfl 40 (by kernel_rfl) (.int .u64 0) rfl (r_loadA rfl (A325'.below B340) (u := .int .u64 0) rfl Try.underlying47 rfl) rfl ?_
                                    refine EG_take 4 rfl (by kernel_rfl) (by kernel_rfl) (by kernel_rfl) rfl 40 (by kernel_rfl) (.int .u8 (b332.toNat : Int)) rfl (r_move rfl) rfl ?_
                                    refine EG_take 5 rfl (by kernel_rfl) (by kernel_rfl) (by kernel_rfl) rfl 40 (by kernel_rfl) (.int .u64 (b332.toNat : Int)) rfl (r_asn (by omega) (r_convq 5 47 rfl Try.underlying5 Try.underlying47)) rfl ?_
                                    refine EG_take 6 rfl (by kernel_rfl) (by kernel_rfl) (by kernel_rfl) rfl 40 (by kernel_rfl) (.int .i64 16) rfl (r_move rfl) rfl ?_
                                    refine EG_take 7 rfl (by kernel_rfl) (by kernel_rfl) (by kernel_rfl) rfl 40 (by kernel_rfl) (.int .i64 0) rfl (r_asn (by kernel_rfl) (r_rem rfl rfl (by decide))) rfl ?_
                                    refine EG_take 8 rfl (by kernel_rfl) (by kernel_rfl) (by kernel_rfl) rfl 40 (by kernel_rfl) (.int .i64 0) rfl (r_asn (by kernel_rfl) (r_mul rfl rfl)) rfl ?_
                                    obtain ⟨x341, hx341⟩ : ∃ z : Int, z = (b332.toNat : Int) * 1 % 18446744073709551616 := ⟨_, rfl⟩
                                    refine EG_take 9 rfl (by kernel_rfl) (by kernel_rfl) (by kernel_rfl) rfl 40 (by kernel_rfl) (.int .u64 x341) rfl (by rw [hx341]; exact r_shlq (n := 0) rfl rfl rfl (by decide) (by decide)) rfl ?_
                                    obtain ⟨x342, hx342⟩ : ∃ z : Int, z = 0 + x341 := ⟨_, rfl⟩
                                    refine EG_take 10 rfl (by kernel_rfl) (by kernel_rfl) (by kernel_rfl) rfl 40 (by kernel_rfl) (.int .u64 x342) rfl (by rw [hx342]; exact r_orq b332.toNat (0 : Int).toNat 0 rfl rfl (by omega) (by omega) (by omega) (by omega)) rfl ?_
                                    refine EG_take 11 rfl (by kernel_rfl) (by kernel_rfl) (by kernel_rfl) rfl 40 (by kernel_rfl) (ptr b18 2) rfl (r_indexA (i := 2) rfl rfl (by omega) (by omega) Try.underlying49 (by kernel_rfl)) rfl ?_
                                    refine EG_one 12 rfl (by kernel_rfl) (by kernel_rfl) ?_
                                    refine EL_storeA (j := 2) (u := .int .u64 x342) rfl rfl (A325'.below B340) (by first | (simp; omega) | simp) rfl (by kernel_rfl) ?_
                                    intro w343 A344 K345 z346
                                    have A344' : Arr w343 b18 49 ((([x171, x323, x342] : List Int)).map (Value.int .u64)) := A344
                                    have B347 : Below w.heap.size w w343 := below_kept B338 K345 (Nat.le_trans B17.size (Nat.le_of_eq k20.symm)) (B338.size)
                                    have B348 : Below w12.heap.size w12 w343 := below_kept B339 K345 (Nat.le_trans (Nat.le_refl _) (Nat.le_of_eq k20.symm)) (B339.size)
                                    have A349 : Arr w343 b11 49 ((List.replicate 3 0).map (Value.int .u64)) := (A330.below B340).grew K345 (by simp; omega)
                                    refine EL_nil ?_
                                    refine ⟨rfl, ?_⟩
                                    refine EG_done (by kernel_rfl) ?_
                                    refine inB_n ?_
                                    refine thn_n ?_
                                    refine EC_reg ?_
                                    refine EL_val (.int .i64 17) w343 rfl (r_asn (by kernel_rfl) (r_add rfl rfl)) ?_
                                    refine EL_val (.int .i64 17) w343 rfl (r_move rfl) ?_
                                    refine EL_nil ?_
                                    refine thn_n ?_
                                    refine U_step ?_
                                    refine EC_seq ?_
                                    refine EC_reg ?_
                                    refine EL_val (.bool (decide (17 < (b.length : Int)))) w343 rfl (r_lss rfl rfl) ?_
                                    refine EL_nil ?_
                                    refine thn_n ?_
                                    refine EC_seq ?_
                                    refine EC_cond_false (Eq.trans (show _ = Value.bool (decide (17 < (b.length : Int))) from rfl) (congrArg Value.bool (show (decide (17 < (b.length : Int))) = false from by simp; omega))) ?_
                                    refine EC_exit ?_
                                    refine thn_x ?_
                                    refine thn_x ?_
                                    refine inB_hit ?_
                                    refine thn_n ?_
                                    refine EC_seq ?_
                                    refine EC_reg ?_
                                    refine EL_val (.agg (([x171, x323, x342] : List Int).map (Value.int .u64)).toArray) w343 rfl (r_loadAll rfl A344' Try.underlying49 rfl (Eq.trans (show _ = some 3 from by kernel_rfl) (congrArg some (by first | (simp; done) | (simp; omega) | rfl)))) ?_
                                    refine EL_storeAll (v := .agg (([x171, x323, x342] : List Int).map (Value.int .u64)).toArray) (cs' := (([x171, x323, x342] : List Int).map (Value.int .u64)).toArray) rfl rfl rfl A349 (by first | rfl | (simp; done) | (simp; omega)) (Eq.trans (show _ = some 3 from by kernel_rfl) (congrArg some (by first | (simp; done) | (simp; omega) | rfl))) (ints_oneCell _ _) ?_
                                    intro w350 A351 K352 z353
                                    have A351' : Arr w350 b11 49 (([x171, x323, x342] : List Int).map (Value.int .u64)) := by simpa using A351
                                    have B354 : Below w.heap.size w w350 := below_kept B347 K352 (Nat.le_trans (Nat.le_refl _) (Nat.le_of_eq k13.symm)) (B347.size)
                                    have A355 : Arr w350 b18 49 (([x171, x323, x342] : List Int).map (Value.int .u64)) := A344'.grew K352 (by simp; omega)
                                    refine EL_nil ?_
                                    refine thn_n ?_
                                    refine EC_ret ?_
                                    refine fin1c Try.results24 (show _ = ptr b11 from rfl) A351' Try.underlying49 rfl (by kernel_rfl) ⟨_, rfl, ?_⟩
                                    have f0 : bi b 0 = (b28.toNat : Int) := bi_of (i := 0) hb29
                                    have f1 : bi b 1 = (b47.toNat : Int) := bi_of (i := 1) hb48
                                    have f2 : bi b 2 = (b66.toNat : Int) := bi_of (i := 2) hb67
                                    have f3 : bi b 3 = (b85.toNat : Int) := bi_of (i := 3) hb86
                                    have f4 : bi b 4 = (b104.toNat : Int) := bi_of (i := 4) hb105
                                    have f5 : bi b 5 = (b123.toNat : Int) := bi_of (i := 5) hb124
                                    have f6 : bi b 6 = (b142.toNat : Int) := bi_of (i := 6) hb143
                                    have f7 : bi b 7 = (b161.toNat : Int) := bi_of (i := 7) hb162
                                    have f8 : bi b 8 = (b180.toNat : Int) := bi_of (i := 8) hb181
                                    have f9 : bi b 9 = (b199.toNat : Int) := bi_of (i := 9) hb200
                                    have f10 : bi b 10 = (b218.toNat : Int) := bi_of (i := 10) hb219
                                    have f11 : bi b 11 = (b237.toNat : Int) := bi_of (i := 11) hb238
                                    have f12 : bi b 12 = (b256.toNat : Int) := bi_of (i := 12) hb257
                                    have f13 : bi b 13 = (b275.toNat : Int) := bi_of (i := 13) hb276
                                    have f14 : bi b 14 = (b294.toNat : Int) := bi_of (i := 14) hb295
                                    have f15 : bi b 15 = (b313.toNat : Int) := bi_of (i := 15) hb314
                                    have f16 : bi b 16 = (b332.toNat : Int) := bi_of (i := 16) hb333
                                    have ew := wof_of (a := x171) (b := x323) (c := x342) (n := num b) (by omega) (by omega) (by omega) (by simp only [num, f0, f1, f2, f3, f4, f5, f6, f7, f8, f9, f10, f11, f12, f13, f14, f15, f16]; omega)
                                    exact ⟨congrArg (fun l : List Int => Value.agg (l.map (Value.int .u64)).toArray) ew, B354⟩
                                  · refine EC_exit ?_
                                    refine thn_x ?_
                                    refine thn_x ?_
                                    refine inB_hit ?_
                                    refine thn_n ?_
                                    refine EC_seq ?_
                                    refine EC_reg ?_
                                    refine EL_val (.agg (([x171, x323, 0] : List Int).map (Value.int .u64)).toArray) w324 rfl (r_loadAll rfl A325' Try.underlying49 rfl (Eq.trans (show _ = some 3 from by kernel_rfl) (congrArg some (by first | (simp; done) | (simp; omega) | rfl)))) ?_
                                    refine EL_storeAll (v := .agg (([x171, x323, 0] : List Int).map (Value.int .u64)).toArray) (cs' := (([x171, x323, 0] : List Int).map (Value.int .u64)).toArray) rfl rfl rfl A330 (by first | rfl | (simp; done) | (simp; omega)) (Eq.trans (show _ = some 3 from by kernel_rfl) (congrArg some (by first | (simp; done) | (simp; omega) | rfl))) (ints_oneCell _ _) ?_
                                    intro w356 A357 K358 z359
                                    have A357' : Arr w356 b11 49 (([x171, x323, 0] : List Int).map (Value.int .u64)) := by simpa using A357
                                    have B360 : Below w.heap.size w w356 := below_kept B328 K358 (Nat.le_trans (Nat.le_refl _) (Nat.le_of_eq k13.symm)) (B328.size)
                                    have A361 : Arr w356 b18 49 (([x171, x323, 0] : List Int).map (Value.int .u64)) := A325'.grew K358 (by simp; omega)
                                    refine EL_nil ?_
                                    refine thn_n ?_
                                    refine EC_ret ?_
                                    refine fin1c Try.results24 (show _ = ptr b11 from rfl) A357' Try.underlying49 rfl (by kernel_rfl) ⟨_, rfl, ?_⟩
                                    have f0 : bi b 0 = (b28.toNat : Int) := bi_of (i := 0) hb29
                                    have f1 : bi b 1 = (b47.toNat : Int) := bi_of (i := 1) hb48
                                    have f2 : bi b 2 = (b66.toNat : Int) := bi_of (i := 2) hb67
                                    have f3 : bi b 3 = (b85.toNat : Int) := bi_of (i := 3) hb86
                                    have f4 : bi b 4 = (b104.toNat : Int) := bi_of (i := 4) hb105
                                    have f5 : bi b 5 = (b123.toNat : Int) := bi_of (i := 5) hb124
                                    have f6 : bi b 6 = (b142.toNat : Int) := bi_of (i := 6) hb143
                                    have f7 : bi b 7 = (b161.toNat : Int) := bi_of (i := 7) hb162
                                    have f8 : bi b 8 = (b180.toNat : Int) := bi_of (i := 8) hb181
                                    have f9 : bi b 9 = (b199.toNat : Int) := bi_of (i := 9) hb200
                                    have f10 : bi b 10 = (b218.toNat : Int) := bi_of (i := 10) hb219
                                    have f11 : bi b 11 = (b237.toNat : Int) := bi_of (i := 11) hb238
                                    have f12 : bi b 12 = (b256.toNat : Int) := bi_of (i := 12) hb257
                                    have f13 : bi b 13 = (b275.toNat : Int) := bi_of (i := 13) hb276
                                    have f14 : bi b 14 = (b294.toNat : Int) := bi_of (i := 14) hb295
                                    have f15 : bi b 15 = (b313.toNat : Int) := bi_of (i := 15) hb314
                                    have f16 : bi b 16 = 0 := bi_no (by omega)
                                    have ew := wof_of (a := x171) (b := x323) (c := 0) (n := num b) (by omega) (by omega) (by omega) (by simp only [num, f0, f1, f2, f3, f4, f5, f6, f7, f8, f9, f10, f11, f12, f13, f14, f15, f16]; omega)
                                    exact ⟨congrArg (fun l : List Int => Value.agg (l.map (Value.int .u64)).toArray) ew, B360⟩
                                · refine EC_exit ?_
                                  refine thn_x ?_
                                  refine thn_x ?_
                                  refine inB_hit ?_
                                  refine thn_n ?_
                                  refine EC_seq ?_
                                  refine EC_reg ?_
                                  refine EL_val (.agg (([x171, x304, 0] : List Int).map (Value.int .u64)).toArray) w305 rfl (r_loadAll rfl A306' Try.underlying49 rfl (Eq.trans (show _ = some 3 from by kernel_rfl) (congrArg some (by first | (simp; done) | (simp; omega) | rfl)))) ?_
                                  refine EL_storeAll (v := .agg (([x171, x304, 0] : List Int).map (Value.int .u64)).toArray) (cs' := (([x171, x304, 0] : List Int).map (Value.int .u64)).toArray) rfl rfl rfl A311 (by first | rfl | (simp; done) | (simp; omega)) (Eq.trans (show _ = some 3 from by kernel_rfl) (congrArg some (by first | (simp; done) | (simp; omega) | rfl))) (ints_oneCell _ _) ?_
                                  intro w362 A363 K364 z365
                                  have A363' : Arr w362 b11 49 (([x171, x304, 0] : List Int).map (Value.int .u64)) := by simpa using A363
                                  have B366 : Below w.heap.size w w362 := below_kept B309 K364 (Nat.le_trans (Nat.le_refl _) (Nat.le_of_eq k13.symm)) (B309.size)
                                  have A367 : Arr w362 b18 49 (([x171, x304, 0] : List Int).map (Value.int .u64)) := A306'.grew K364 (by simp; omega)
                                  refine EL_nil ?_
                                  refine thn_n ?_
                                  refine EC_ret ?_
                                  refine fin1c Try.results24 (show _ = ptr b11 from rfl) A363' Try.underlying49 rfl (by kernel_rfl) ⟨_, rfl, ?_⟩
                                  have f0 : bi b 0 = (b28.toNat : Int) := bi_of (i := 0) hb29
                                  have f1 : bi b 1 = (b47.toNat : Int) := bi_of (i := 1) hb48
                                  have f2 : bi b 2 = (b66.toNat : Int) := bi_of (i := 2) hb67
                                  have f3 : bi b 3 = (b85.toNat : Int) := bi_of (i := 3) hb86
                                  have f4 : bi b 4 = (b104.toNat : Int) := bi_of (i := 4) hb105
                                  have f5 : bi b 5 = (b123.toNat : Int) := bi_of (i := 5) hb124
                                  have f6 : bi b 6 = (b142.toNat : Int) := bi_of (i := 6) hb143
                                  have f7 : bi b 7 = (b161.toNat : Int) := bi_of (i := 7) hb162
                                  have f8 : bi b 8 = (b180.toNat : Int) := bi_of (i := 8) hb181
                                  have f9 : bi b 9 = (b199.toNat : Int) := bi_of (i := 9) hb200
                                  have f10 : bi b 10 = (b218.toNat : Int) := bi_of (i := 10) hb219
                                  have f11 : bi b 11 = (b237.toNat : Int) := bi_of (i := 11) hb238
                                  have f12 : bi b 12 = (b256.toNat : Int) := bi_of (i := 12) hb257
                                  have f13 : bi b 13 = (b275.toNat : Int) := bi_of (i := 13) hb276
                                  have f14 : bi b 14 = (b294.toNat : Int) := bi_of (i := 14) hb295
                                  have f15 : bi b 15 = 0 := bi_no (by omega)
                                  have f16 : bi b 16 = 0 := bi_no (by omega)
                                  have ew := wof_of (a := x171) (b := x304) (c := 0) (n := num b) (by omega) (by omega) (by omega) (by simp only [num, f0, f1, f2, f3, f4, f5, f6, f7, f8, f9, f10, f11, f12, f13, f14, f15, f16]; omega)
                                  exact ⟨congrArg (fun l : List Int => Value.agg (l.map (Value.int .u64)).toArray) ew, B366⟩
                              · refine EC_exit ?_
                                refine thn_x ?_
                                refine thn_x ?_
                                refine inB_hit ?_
                                refine thn_n ?_
                                refine EC_seq ?_
                                refine EC_reg ?_
                                refine EL_val (.agg (([x171, x285, 0] : List Int).map (Value.int .u64)).toArray) w286 rfl (r_loadAll rfl A287' Try.underlying49 rfl (Eq.trans (show _ = some 3 from by kernel_rfl) (congrArg some (by first | (simp; done) | (simp; omega) | rfl)))) ?_
                                refine EL_storeAll (v := .agg (([x171, x285, 0] : List Int).map (Value.int .u64)).toArray) (cs' := (([x171, x285, 0] : List Int).map (Value.int .u64)).toArray) rfl rfl rfl A292 (by first | rfl | (simp; done) | (simp; omega)) (Eq.trans (show _ = some 3 from by kernel_rfl) (congrArg some (by first | (simp; done) | (simp; omega) | rfl))) (ints_oneCell _ _) ?_
                                intro w368 A369 K370 z371
                                have A369' : Arr w368 b11 49 (([x171, x285, 0] : List Int).map (Value.int .u64)) := by simpa using A369
                                have B372 : Below w.heap.size w w368 := below_kept B290 K370 (Nat.le_trans (Nat.le_refl _) (Nat.le_of_eq k13.symm)) (B290.size)
                                have A373 : Arr w368 b18 49 (([x171, x285, 0] : List Int).map (Value.int .u64)) := A287'.grew K370 (by simp; omega)
                                refine EL_nil ?_
                                refine thn_n ?_
                                refine EC_ret ?_
                                refine fin1c Try.results24 (show _ = ptr b11 from rfl) A369' Try.underlying49 rfl (by kernel_rfl) ⟨_, rfl, ?_⟩
                                have f0 : bi b 0 = (b28.toNat : Int) := bi_of (i := 0) hb29
                                have f1 : bi b 1 = (b47.toNat : Int) := bi_of (i := 1) hb48
                                have f2 : bi b 2 = (b66.toNat : Int) := bi_of (i := 2) hb67
                                have f3 : bi b 3 = (b85.toNat : Int) := bi_of (i := 3) hb86
                                have f4 : bi b 4 = (b104.toNat : Int) := bi_of (i := 4) hb105
                                have f5 : bi b 5 = (b123.toNat : Int) := bi_of (i := 5) hb124
                                have f6 : bi b 6 = (b142.toNat : Int) := bi_of (i := 6) hb143
                                have f7 : bi b 7 = (b161.toNat : Int) := bi_of (i := 7) hb162
                                have f8 : bi b 8 = (b180.toNat : Int) := bi_of (i := 8) hb181
                                have f9 : bi b 9 = (b199.toNat : Int) := bi_of (i := 9) hb200
                                have f10 : bi b 10 = (b218.toNat : Int) := bi_of (i := 10) hb219
                                have f11 : bi b 11 = (b237.toNat : Int) := bi_of (i := 11) hb238
                                have f12 : bi b 12 = (b256.toNat : Int) := bi_of (i := 12) hb257
                                have f13 : bi b 13 = (b275.toNat : Int) := bi_of (i := 13) hb276
                                have f14 : bi b 14 = 0 := bi_no (by omega)
                                have f15 : bi b 15 = 0 := bi_no (by omega)
                                have f16 : bi b 16 = 0 := bi_no (by omega)
                                have ew := wof_of (a := x171) (b := x285) (c := 0) (n := num b) (by omega) (by omega) (by omega) (by simp only [num, f0, f1, f2, f3, f4, f5, f6, f7, f8, f9, f10, f11, f12, f13, f14, f15, f16]; omega)
                                exact ⟨congrArg (fun l : List Int => Value.agg (l.map (Value.int .u64)).toArray) ew, B372⟩
                            · refine EC_exit ?_
                              refine thn_x ?_
                              refine thn_x ?_
                              refine inB_hit ?_
                              refine thn_n ?_
                              refine EC_seq ?_
                              refine EC_reg ?_
                              refine EL_val (.agg (([x171, x266, 0] : List Int).map (Value.int .u64)).toArray) w267 rfl (r_loadAll rfl A268' Try.underlying49 rfl (Eq.trans (show _ = some 3 from by kernel_rfl) (congrArg some (by first | (simp; done) | (simp; omega) | rfl)))) ?_
                              refine EL_storeAll (v := .agg (([x171, x266, 0] : List Int).map (Value.int .u64)).toArray) (cs' := (([x171, x266, 0] : List Int).map (Value.int .u64)).toArray) rfl rfl rfl A273 (by first | rfl | (simp; done) | (simp; omega)) (Eq.trans (show _ = some 3 from by kernel_rfl) (congrArg some (by first | (simp; done) | (simp; omega) | rfl))) (ints_oneCell _ _) ?_
                              intro w374 A375 K376 z377
                              have A375' : Arr w374 b11 49 (([x171, x266, 0] : List Int).map (Value.int .u64)) := by simpa using A375
                              have B378 : Below w.heap.size w w374 := below_kept B271 K376 (Nat.le_trans (Nat.le_refl _) (Nat.le_of_eq k13.symm)) (B271.size)
                              have A379 : Arr w374 b18 49 (([x171, x266, 0] : List Int).map (Value.int .u64)) := A268'.grew K376 (by simp; omega)
                              refine EL_nil ?_
                              refine thn_n ?_
                              refine EC_ret ?_
                              refine fin1c Try.results24 (show _ = ptr b11 from rfl) A375' Try.underlying49 rfl (by kernel_rfl) ⟨_, rfl, ?_⟩
                              have f0 : bi b 0 = (b28.toNat : Int) := bi_of (i := 0) hb29
                              have f1 : bi b 1 = (b47.toNat : Int) := bi_of (i := 1) hb48
                              have f2 : bi b 2 = (b66.toNat : Int) := bi_of (i := 2) hb67
                              have f3 : bi b 3 = (b85.toNat : Int) := bi_of (i := 3) hb86
                              have f4 : bi b 4 = (b104.toNat : Int) := bi_of (i := 4) hb105
                              have f5 : bi b 5 = (b123.toNat : Int) := bi_of (i := 5) hb124
                              have f6 : bi b 6 = (b142.toNat : Int) := bi_of (i := 6) hb143
                              have f7 : bi b 7 = (b161.toNat : Int) := bi_of (i := 7) hb162
                              have f8 : bi b 8 = (b180.toNat : Int) := bi_of (i := 8) hb181
                              have f9 : bi b 9 = (b199.toNat : Int) := bi_of (i := 9) hb200
                              have f10 : bi b 10 = (b218.toNat : Int) := bi_of (i := 10) hb219
                              have f11 : bi b 11 = (b237.toNat : Int) := bi_of (i := 11) hb238
                              have f12 : bi b 12 = (b256.toNat : Int) := bi_of (i := 12) hb257
                              have f13 : bi b 13 = 0 := bi_no (by omega)
                              have f14 : bi b 14 = 0 := bi_no (by omega)
                              have f15 : bi b 15 = 0 := bi_no (by omega)
                              have f16 : bi b 16 = 0 := bi_no (by omega)
                              have ew := wof_of (a := x171) (b := x266) (c := 0) (n := num b) (by omega) (by omega) (by omega) (by simp only [num, f0, f1, f2, f3, f4, f5, f6, f7, f8, f9, f10, f11, f12, f13, f14, f15, f16]; omega)
                              exact ⟨congrArg (fun l : List Int => Value.agg (l.map (Value.int .u64)).toArray) ew, B378⟩
                          · refine EC_exit ?_
                            refine thn_x ?_
                            refine thn_x ?_
                            refine inB_hit ?_
                            refine thn_n ?_
                            refine EC_seq ?_
                            refine EC_reg ?_
                            refine EL_val (.agg (([x171, x247, 0] : List Int).map (Value.int .u64)).toArray) w248 rfl (r_loadAll rfl A249' Try.underlying49 rfl (Eq.trans (show _ = some 3 from by kernel_rfl) (congrArg some (by first | (simp; done) | (simp; omega) | rfl)))) ?_
                            refine EL_storeAll (v := .agg (([x171, x247, 0] : List Int).map (Value.int .u64)).toArray) (cs' := (([x171, x247, 0] : List Int).map (Value.int .u64)).toArray) rfl rfl rfl A254 (by first | rfl | (simp; done) | (simp; omega)) (Eq.trans (show _ = some 3 from by kernel_rfl) (congrArg some (by first | (simp; done) | (simp; omega) | rfl))) (ints_oneCell _ _) ?_
                            intro w380 A381 K382 z383
                            have A381' : Arr w380 b11 49 (([x171, x247, 0] : List Int).map (Value.int .u64)) := by simpa using A381
                            have B384 : Below w.heap.size w w380 := below_kept B252 K382 (Nat.le_trans (Nat.le_refl _) (Nat.le_of_eq k13.symm)) (B252.size)
                            have A385 : Arr w380 b18 49 (([x171, x247, 0] : List Int).map (Value.int .u64)) := A249'.grew K382 (by simp; omega)
                            refine EL_nil ?_
                            refine thn_n ?_
                            refine EC_ret ?_
                            refine fin1c Try.results24 (show _ = ptr b11 from rfl) A381' Try.underlying49 rfl (by kernel_rfl) ⟨_, rfl, ?_⟩
                            have f0 : bi b 0 = (b28.toNat : Int) := bi_of (i := 0) hb29
                            have f1 : bi b 1 = (b47.toNat : Int) := bi_of (i := 1) hb48
                            have f2 : bi b 2 = (b66.toNat : Int) := bi_of (i := 2) hb67
                            have f3 : bi b 3 = (b85.toNat : Int) := bi_of (i := 3) hb86
                            have f4 : bi b 4 = (b104.toNat : Int) := bi_of (i := 4) hb105
                            have f5 : bi b 5 = (b123.toNat : Int) := bi_of (i := 5) hb124
                            have f6 : bi b 6 = (b142.toNat : Int) := bi_of (i := 6) hb143
                            have f7 : bi b 7 = (b161.toNat : Int) := bi_of (i := 7) hb162
                            have f8 : bi b 8 = (b180.toNat : Int) := bi_of (i := 8) hb181
                            have f9 : bi b 9 = (b199.toNat : Int) := bi_of (i := 9) hb200
                            have f10 : bi b 10 = (b218.toNat : Int) := bi_of (i := 10) hb219
                            have f11 : bi b 11 = (b237.toNat : Int) := bi_of (i := 11) hb238
                            have f12 : bi b 12 = 0 := bi_no (by omega)
                            have f13 : bi b 13 = 0 := bi_no (by omega)
                            have f14 : bi b 14 = 0 := bi_no (by omega)
                            have f15 : bi b 15 = 0 := bi_no (by omega)
                            have f16 : bi b 16 = 0 := bi_no (by omega)
                            have ew := wof_of (a := x171) (b := x247) (c := 0) (n := num b) (by omega) (by omega) (by omega) (by simp only [num, f0, f1, f2, f3, f4, f5, f6, f7, f8, f9, f10, f11, f12, f13, f14, f15, f16]; omega)
                            exact ⟨congrArg (fun l : List Int => Value.agg (l.map (Value.int .u64)).toArray) ew, B384⟩
                        · refine EC_exit ?_
                          refine thn_x ?_
                          refine thn_x ?_
                          refine inB_hit ?_
                          refine thn_n ?_
                          refine EC_seq ?_
                          refine EC_reg ?_
                          refine EL_val (.agg (([x171, x228, 0] : List Int).map (Value.int .u64)).toArray) w229 rfl (r_loadAll rfl A230' Try.underlying49 rfl (Eq.trans (show _ = some 3 from by kernel_rfl) (congrArg some (by first | (simp; done) | (simp; omega) | rfl)))) ?_
                          refine EL_storeAll (v := .agg (([x171, x228, 0] : List Int).map (Value.int .u64)).toArray) (cs' := (([x171, x228, 0] : List Int).map (Value.int .u64)).toArray) rfl rfl rfl A235 (by first | rfl | (simp; done) | (simp; omega)) (Eq.trans (show _ = some 3 from by kernel_rfl) (congrArg some (by first | (simp; done) | (simp; omega) | rfl))) (ints_oneCell _ _) ?_
                          intro w386 A387 K388 z389
                          have A387' : Arr w386 b11 49 (([x171, x228, 0] : List Int).map (Value.int .u64)) := by simpa using A387
                          have B390 : Below w.heap.size w w386 := below_kept B233 K388 (Nat.le_trans (Nat.le_refl _) (Nat.le_of_eq k13.symm)) (B233.size)
                          have A391 : Arr w386 b18 49 (([x171, x228, 0] : List Int).map (Value.int .u64)) := A230'.grew K388 (by simp; omega)
                          refine EL_nil ?_
                          refine thn_n ?_
                          refine EC_ret ?_
                          refine fin1c Try.results24 (show _ = ptr b11 from rfl) A387' Try.underlying49 rfl (by kernel_rfl) ⟨_, rfl, ?_⟩
                          have f0 : bi b 0 = (b28.toNat : Int) := bi_of (i := 0) hb29
                          have f1 : bi b 1 = (b47.toNat : Int) := bi_of (i := 1) hb48
                          have f2 : bi b 2 = (b66.toNat : Int) := bi_of (i := 2) hb67
                          have f3 : bi b 3 = (b85.toNat : Int) := bi_of (i := 3) hb86
                          have f4 : bi b 4 = (b104.toNat : Int) := bi_of (i := 4) hb105
                          have f5 : bi b 5 = (b123.toNat : Int) := bi_of (i := 5) hb124
                          have f6 : bi b 6 = (b142.toNat : Int) := bi_of (i := 6) hb143
                          have f7 : bi b 7 = (b161.toNat : Int) := bi_of (i := 7) hb162
                          have f8 : bi b 8 = (b180.toNat : Int) := bi_of (i := 8) hb181
                          have f9 : bi b 9 = (b199.toNat : Int) := bi_of (i := 9) hb200
                          have f10 : bi b 10 = (b218.toNat : Int) := bi_of (i := 10) hb219
                          have f11 : bi b 11 = 0 := bi_no (by omega)
                          have f12 : bi b 12 = 0 := bi_no (by omega)
                          have f13 : bi b 13 = 0 := bi_no (by omega)
                          have f14 : bi b 14 = 0 := bi_no (by omega)
                          have f15 : bi b 15 = 0 := bi_no (by omega)
                          have f16 : bi b 16 = 0 := bi_no (by omega)
                          have ew := wof_of (a := x171) (b := x228) (c := 0) (n := num b) (by omega) (by omega) (by omega) (by simp only [num, f0, f1, f2, f3, f4, f5, f6, f7, f8, f9, f10, f11, f12, f13, f14, f15, f16]; omega)
                          exact ⟨congrArg (fun l : List Int => Value.agg (l.map (Value.int .u64)).toArray) ew, B390⟩
                      · refine EC_exit ?_
                        refine thn_x ?_
                        refine thn_x ?_
                        refine inB_hit ?_
                        refine thn_n ?_
                        refine EC_seq ?_
                        refine EC_reg ?_
                        refine EL_val (.agg (([x171, x209, 0] : List Int).map (Value.int .u64)).toArray) w210 rfl (r_loadAll rfl A211' Try.underlying49 rfl (Eq.trans (show _ = some 3 from by kernel_rfl) (congrArg some (by first | (simp; done) | (simp; omega) | rfl)))) ?_
                        refine EL_storeAll (v := .agg (([x171, x209, 0] : List Int).map (Value.int .u64)).toArray) (cs' := (([x171, x209, 0] : List Int).map (Value.int .u64)).toArray) rfl rfl rfl A216 (by first | rfl | (simp; done) | (simp; omega)) (Eq.trans (show _ = some 3 from by kernel_rfl) (congrArg some (by first | (simp; done) | (simp; omega) | rfl))) (ints_oneCell _ _) ?_
                        intro w392 A393 K394 z395
                        have A393' : Arr w392 b11 49 (([x171, x209, 0] : List Int).map (Value.int .u64)) := by simpa using A393
                        have B396 : Below w.heap.size w w392 := below_kept B214 K394 (Nat.le_trans (Nat.le_refl _) (Nat.le_of_eq k13.symm)) (B214.size)
                        have A397 : Arr w392 b18 49 (([x171, x209, 0] : List Int).map (Value.int .u64)) := A211'.grew K394 (by simp; omega)
                        refine EL_nil ?_
                        refine thn_n ?_
                        refine EC_ret ?_
                        refine fin1c Try.results24 (show _ = ptr b11 from rfl) A393' Try.underlying49 rfl (by kernel_rfl) ⟨_, rfl, ?_⟩
                        have f0 : bi b 0 = (b28.toNat : Int) := bi_of (i := 0) hb29
                        have f1 : bi b 1 = (b47.toNat : Int) := bi_of (i := 1) hb48
                        have f2 : bi b 2 = (b66.toNat : Int) := bi_of (i := 2) hb67
                        have f3 : bi b 3 = (b85.toNat : Int) := bi_of (i := 3) hb86
                        have f4 : bi b 4 = (b104.toNat : Int) := bi_of (i := 4) hb105
                        have f5 : bi b 5 = (b123.toNat : Int) := bi_of (i := 5) hb124
                        have f6 : bi b 6 = (b142.toNat : Int) := bi_of (i := 6) hb143
                        have f7 : bi b 7 = (b161.toNat : Int) := bi_of (i := 7) hb162
                        have f8 : bi b 8 = (b180.toNat : Int) := bi_of (i := 8) hb181
                        have f9 : bi b 9 = (b199.toNat : Int) := bi_of (i := 9) hb200
                        have f10 : bi b 10 = 0 := bi_no (by omega)
                        have f11 : bi b 11 = 0 := bi_no (by omega)
                        have f12 : bi b 12 = 0 := bi_no (by omega)
                        have f13 : bi b 13 = 0 := bi_no (by omega)
                        have f14 : bi b 14 = 0 := bi_no (by omega)
                        have f15 : bi b 15 = 0 := bi_no (by omega)
                        have f16 : bi b 16 = 0 := bi_no (by omega)
                        have ew := wof_of (a := x171) (b := x209) (c := 0) (n := num b) (by omega) (by omega) (by omega) (by simp only [num, f0, f1, f2, f3, f4, f5, f6, f7, f8, f9, f10, f11, f12, f13, f14, f15, f16]; omega)
                        exact ⟨congrArg (fun l : List Int => Value.agg (l.map (Value.int .u64)).toArray) ew, B396⟩
                    · refine EC_exit ?_
                      refine thn_x ?_
                      refine thn_x ?_
                      refine inB_hit ?_
                      refine thn_n ?_
                      refine EC_seq ?_
                      refine EC_reg ?_
                      refine EL_val (.agg (([x171, x190, 0] : List Int).map (Value.int .u64)).toArray) w191 rfl (r_loadAll rfl A192' Try.underlying49 rfl (Eq.trans (show _ = some 3 from by kernel_rfl) (congrArg some (by first | (simp; done) | (simp; omega) | rfl)))) ?_
                      refine EL_storeAll (v := .agg (([x171, x190, 0] : List Int).map (Value.int .u64)).toArray) (cs' := (([x171, x190, 0] : List Int).map (Value.int .u64)).toArray) rfl rfl rfl A197 (by first | rfl | (simp; done) | (simp; omega)) (Eq.trans (show _ = some 3 from by kernel_rfl) (congrArg some (by first | (simp; done) | (simp; omega) | rfl))) (ints_oneCell _ _) ?_
                      intro w398 A399 K400 z401
                      have A399' : Arr w398 b11 49 (([x171, x190, 0] : List Int).map (Value.int .u64)) := by simpa using A399
                      have B402 : Below w.heap.size w w398 := below_kept B195 K400 (Nat.le_trans (Nat.le_refl _) (Nat.le_of_eq k13.symm)) (B195.size)
                      have A403 : Arr w398 b18 49 (([x171, x190, 0] : List Int).map (Value.int .u64)) := A192'.grew K400 (by simp; omega)
                      refine EL_nil ?_
                      refine thn_n ?_
                      refine EC_ret ?_
                      refine fin1c Try.results24 (show _ = ptr b11 from rfl) A399' Try.underlying49 rfl (by kernel_rfl) ⟨_, rfl, ?_⟩
                      have f0 : bi b 0 = (b28.toNat : Int) := bi_of (i := 0) hb29
                      have f1 : bi b 1 = (b47.toNat : Int) := bi_of (i := 1) hb48
                      have f2 : bi b 2 = (b66.toNat : Int) := bi_of (i := 2) hb67
                      have f3 : bi b 3 = (b85.toNat : Int) := bi_of (i := 3) hb86
                      have f4 : bi b 4 = (b104.toNat : Int) := bi_of (i := 4) hb105
                      have f5 : bi b 5 = (b123.toNat : Int) := bi_of (i := 5) hb124
                      have f6 : bi b 6 = (b142.toNat : Int) := bi_of (i := 6) hb143
                      have f7 : bi b 7 = (b161.toNat : Int) := bi_of (i := 7) hb162
                      have f8 : bi b 8 = (b180.toNat : Int) := bi_of (i := 8) hb181
                      have f9 : bi b 9 = 0 := bi_no (by omega)
                      have f10 : bi b 10 = 0 := bi_no (by omega)
                      have f11 : bi b 11 = 0 := bi_no (by omega)
                      have f12 : bi b 12 = 0 := bi_no (by omega)
                      have f13 : bi b 13 = 0 := bi_no (by omega)
                      have f14 : bi b 14 = 0 := bi_no (by omega)
                      have f15 : bi b 15 = 0 := bi_no (by omega)
                      have f16 : bi b 16 = 0 := bi_no (by omega)
                      have ew := wof_of (a := x171) (b := x190) (c := 0) (n := num b) (by omega) (by omega) (by omega) (by simp only [num, f0, f1, f2, f3, f4, f5, f6, f7, f8, f9, f10, f11, f12, f13, f14, f15, f16]; omega)
                      exact ⟨congrArg (fun l : List Int => Value.agg (l.map (Value.int .u64)).toArray) ew, B402⟩
                  · refine EC_exit ?_
                    refine thn_x ?_
                    refine thn_x ?_
                    refine inB_hit ?_
                    refine thn_n ?_
                    refine EC_seq ?_
                    refine EC_reg ?_
                    refine EL_val (.agg (([x171, 0, 0] : List Int).map (Value.int .u64)).toArray) w172 rfl (r_loadAll rfl A173' Try.underlying49 rfl (Eq.trans (show _ = some 3 from by kernel_rfl) (congrArg some (by first | (simp; done) | (simp; omega) | rfl)))) ?_
                    refine EL_storeAll (v := .agg (([x171, 0, 0] : List Int).map (Value.int .u64)).toArray) (cs' := (([x171, 0, 0] : List Int).map (Value.int .u64)).toArray) rfl rfl rfl A178 (by first | rfl | (simp; done) | (simp; omega)) (Eq.trans (show _ = some 3 from by kernel_rfl) (congrArg some (by first | (simp; done) | (simp; omega) | rfl))) (ints_oneCell _ _) ?_
                    intro w404 A405 K406 z407
                    have A405' : Arr w404 b11 49 (([x171, 0, 0] : List Int).map (Value.int .u64)) := by simpa using A405
                    have B408 : Below w.heap.size w w404 := below_kept B176 K406 (Nat.le_trans (Nat.le_refl _) (Nat.le_of_eq k13.symm)) (B176.size)
                    have A409 : Arr w404 b18 49 (([x171, 0, 0] : List Int).map (Value.int .u64)) := A173'.grew K406 (by simp; omega)
                    refine EL_nil ?_
                    refine thn_n ?_
                    refine EC_ret ?_
                    refine fin1c Try.results24 (show _ = ptr b11 from rfl) A405' Try.underlying49 rfl (by kernel_rfl) ⟨_, rfl, ?_⟩
                    have f0 : bi b 0 = (b28.toNat : Int) := bi_of (i := 0) hb29
                    have f1 : bi b 1 = (b47.toNat : Int) := bi_of (i := 1) hb48
                    have f2 : bi b 2 = (b66.toNat : Int) := bi_of (i := 2) hb67
                    have f3 : bi b 3 = (b85.toNat : Int) := bi_of (i := 3) hb86
                    have f4 : bi b 4 = (b104.toNat : Int) := bi_of (i := 4) hb105
                    have f5 : bi b 5 = (b123.toNat : Int) := bi_of (i := 5) hb124
                    have f6 : bi b 6 = (b142.toNat : Int) := bi_of (i := 6) hb143
                    have f7 : bi b 7 = (b161.toNat : Int) := bi_of (i := 7) hb162
                    have f8 : bi b 8 = 0 := bi_no (by omega)
                    have f9 : bi b 9 = 0 := bi_no (by omega)
                    have f10 : bi b 10 = 0 := bi_no (by omega)
                    have f11 : bi b 11 = 0 := bi_no (by omega)
                    have f12 : bi b 12 = 0 := bi_no (by omega)
                    have f13 : bi b 13 = 0 := bi_no (by omega)
                    have f14 : bi b 14 = 0 := bi_no (by omega)
                    have f15 : bi b 15 = 0 := bi_no (by omega)
                    have f16 : bi b 16 = 0 := bi_no (by omega)
                    have ew := wof_of (a := x171) (b := 0) (c := 0) (n := num b) (by omega) (by omega) (by omega) (by simp only [num, f0, f1, f2, f3, f4, f5, f6, f7, f8, f9, f10, f11, f12, f13, f14, f15, f16]; omega)
                    exact ⟨congrArg (fun l : List Int => Value.agg (l.map (Value.int .u64)).toArray) ew, B408⟩
                · refine EC_exit ?_
                  refine thn_x ?_
                  refine thn_x ?_
                  refine inB_hit ?_
                  refine thn_n ?_
                  refine EC_seq ?_
                  refine EC_reg ?_
                  refine EL_val (.agg (([x152, 0, 0] : List Int).map (Value.int .u64)).toArray) w153 rfl (r_loadAll rfl A154' Try.underlying49 rfl (Eq.trans (show _ = some 3 from by kernel_rfl) (congrArg some (by first | (simp; done) | (simp; omega) | rfl)))) ?_
                  refine EL_storeAll (v := .agg (([x152, 0, 0] : List Int).map (Value.int .u64)).toArray) (cs' := (([x152, 0, 0] : List Int).map (Value.int .u64)).toArray) rfl rfl rfl A159 (by first | rfl | (simp; done) | (simp; omega)) (Eq.trans (show _ = some 3 from by kernel_rfl) (congrArg some (by first | (simp; done) | (simp; omega) | rfl))) (ints_oneCell _ _) ?_
                  intro w410 A411 K412 z413
                  have A411' : Arr w410 b11 49 (([x152, 0, 0] : List Int).map (Value.int .u64)) := by simpa using A411
                  have B414 : Below w.heap.size w w410 := below_kept B157 K412 (Nat.le_trans (Nat.le_refl _) (Nat.le_of_eq k13.symm)) (B157.size)
                  have A415 : Arr w410 b18 49 (([x152, 0, 0] : List Int).map (Value.int .u64)) := A154'.grew K412 (by simp; omega)
                  refine EL_nil ?_
                  refine thn_n ?_
                  refine EC_ret ?_
                  refine fin1c Try.results24 (show _ = ptr b11 from rfl) A411' Try.underlying49 rfl (by kernel_rfl) ⟨_, rfl, ?_⟩
                  have f0 : bi b 0 = (b28.toNat : Int) := bi_of (i := 0) hb29
                  have f1 : bi b 1 = (b47.toNat : Int) := bi_of (i := 1) hb48
                  have f2 : bi b 2 = (b66.toNat : Int) := bi_of (i := 2) hb67
                  have f3 : bi b 3 = (b85.toNat : Int) := bi_of (i := 3) hb86
                  have f4 : bi b 4 = (b104.toNat : Int) := bi_of (i := 4) hb105
                  have f5 : bi b 5 = (b123.toNat : Int) := bi_of (i := 5) hb124
                  have f6 : bi b 6 = (b142.toNat : Int) := bi_of (i := 6) hb143
                  have f7 : bi b 7 = 0 := bi_no (by omega)
                  have f8 : bi b 8 = 0 := bi_no (by omega)
                  have f9 : bi b 9 = 0 := bi_no (by omega)
                  have f10 : bi b 10 = 0 := bi_no (by omega)
                  have f11 : bi b 11 = 0 := bi_no (by omega)
                  have f12 : bi b 12 = 0 := bi_no (by omega)
                  have f13 : bi b 13 = 0 := bi_no (by omega)
                  have f14 : bi b 14 = 0 := bi_no (by omega)
                  have f15 : bi b 15 = 0 := bi_no (by omega)
                  have f16 : bi b 16 = 0 := bi_no (by omega)
                  have ew := wof_of (a := x152) (b := 0) (c := 0) (n := num b) (by omega) (by omega) (by omega) (by simp only [num, f0, f1, f2, f3, f4, f5, f6, f7, f8, f9, f10, f11, f12, f13, f14, f15, f16]; omega)
                  exact ⟨congrArg (fun l : List Int => Value.agg (l.map (Value.int .u64)).toArray) ew, B414⟩
              · refine EC_exit ?_
                refine thn_x ?_
                refine thn_x ?_
                refine inB_hit ?_
                refine thn_n ?_
                refine EC_seq ?_
                refine EC_reg ?_
                refine EL_val (.agg (([x133, 0, 0] : List Int).map (Value.int .u64)).toArray) w134 rfl (r_loadAll rfl A135' Try.underlying49 rfl (Eq.trans (show _ = some 3 from by kernel_rfl) (congrArg some (by first | (simp; done) | (simp; omega) | rfl)))) ?_
                refine EL_storeAll (v := .agg (([x133, 0, 0] : List Int).map (Value.int .u64)).toArray) (cs' := (([x133, 0, 0] : List Int).map (Value.int .u64)).toArray) rfl rfl rfl A140 (by first | rfl | (simp; done) | (simp; omega)) (Eq.trans (show _ = some 3 from by kernel_rfl) (congrArg some (by first | (simp; done) | (simp; omega) | rfl))) (ints_oneCell _ _) ?_
                intro w416 A417 K418 z419
                have A417' : Arr w416 b11 49 (([x133, 0, 0] : List Int).map (Value.int .u64)) := by simpa using A417
                have B420 : Below w.heap.size w w416 := below_kept B138 K418 (Nat.le_trans (Nat.le_refl _) (Nat.le_of_eq k13.symm)) (B138.size)
                have A421 : Arr w416 b18 49 (([x133, 0, 0] : List Int).map (Value.int .u64)) := A135'.grew K418 (by simp; omega)
                refine EL_nil ?_
                refine thn_n ?_
                refine EC_ret ?_
                refine fin1c Try.results24 (show _ = ptr b11 from rfl) A417' Try.underlying49 rfl (by kernel_rfl) ⟨_, rfl, ?_⟩
                have f0 : bi b 0 = (b28.toNat : Int) := bi_of (i := 0) hb29
                have f1 : bi b 1 = (b47.toNat : Int) := bi_of (i := 1) hb48
                have f2 : bi b 2 = (b66.toNat : Int) := bi_of (i := 2) hb67
                have f3 : bi b 3 = (b85.toNat : Int) := bi_of (i := 3) hb86
                have f4 : bi b 4 = (b104.toNat : Int) := bi_of (i := 4) hb105
                have f5 : bi b 5 = (b123.toNat : Int) := bi_of (i := 5) hb124
                have f6 : bi b 6 = 0 := bi_no (by omega)
                have f7 : bi b 7 = 0 := bi_no (by omega)
                have f8 : bi b 8 = 0 := bi_no (by omega)
                have f9 : bi b 9 = 0 := bi_no (by omega)
                have f10 : bi b 10 = 0 := bi_no (by omega)
                have f11 : bi b 11 = 0 := bi_no (by omega)
                have f12 : bi b 12 = 0 := bi_no (by omega)
                have f13 : bi b 13 = 0 := bi_no (by omega)
                have f14 : bi b 14 = 0 := bi_no (by omega)
                have f15 : bi b 15 = 0 := bi_no (by omega)
                have f16 : bi b 16 = 0 := bi_no (by omega)
                have ew := wof_of (a := x133) (b := 0) (c := 0) (n := num b) (by omega) (by omega) (by omega) (by simp only [num, f0, f1, f2, f3, f4, f5, f6, f7, f8, f9, f10, f11, f12, f13, f14, f15, f16]; omega)
                exact ⟨congrArg (fun l : List Int => Value.agg (l.map (Value.int .u64)).toArray) ew, B420⟩
            · refine EC_exit ?_
              refine thn_x ?_
              refine thn_x ?_
              refine inB_hit ?_
              refine thn_n ?_
              refine EC_seq ?_
              refine EC_reg ?_
              refine EL_val (.agg (([x114, 0, 0] : List Int).map (Value.int .u64)).toArray) w115 rfl (r_loadAll rfl A116' Try.underlying49 rfl (Eq.trans (show _ = some 3 from by kernel_rfl) (congrArg some (by first | (simp; done) | (simp; omega) | rfl)))) ?_
              refine EL_storeAll (v := .agg (([x114, 0, 0] : List Int).map (Value.int .u64)).toArray) (cs' := (([x114, 0, 0] : List Int).map (Value.int .u64)).toArray) rfl rfl rfl A121 (by first | rfl | (simp; done) | (simp; omega)) (Eq.trans (show _ = some 3 from by kernel_rfl) (congrArg some (by first | (simp; done) | (simp; omega) | rfl))) (ints_oneCell _ _) ?_
              intro w422 A423 K424 z425
              have A423' : Arr w422 b11 49 (([x114, 0, 0] : List Int).map (Value.int .u64)) := by simpa using A423
              have B426 : Below w.heap.size w w422 := below_kept B119 K424 (Nat.le_trans (Nat.le_refl _) (Nat.le_of_eq k13.symm)) (B119.size)
              have A427 : Arr w422 b18 49 (([x114, 0, 0] : List Int).map (Value.int .u64)) := A116'.grew K424 (by simp; omega)
              refine EL_nil ?_
              refine thn_n ?_
              refine EC_ret ?_
              refine fin1c Try.results24 (show _ = ptr b11 from rfl) A423' Try.underlying49 rfl (by kernel_rfl) ⟨_, rfl, ?_⟩
              have f0 : bi b 0 = (b28.toNat : Int) := bi_of (i := 0) hb29
              have f1 : bi b 1 = (b47.toNat : Int) := bi_of (i := 1) hb48
              have f2 : bi b 2 = (b66.toNat : Int) := bi_of (i := 2) hb67
              have f3 : bi b 3 = (b85.toNat : Int) := bi_of (i := 3) hb86
              have f4 : bi b 4 = (b104.toNat : Int) := bi_of (i := 4) hb105
              have f5 : bi b 5 = 0 := bi_no (by omega)
              have f6 : bi b 6 = 0 := bi_no (by omega)
              have f7 : bi b 7 = 0 := bi_no (by omega)
              have f8 : bi b 8 = 0 := bi_no (by omega)
              have f9 : bi b 9 = 0 := bi_no (by omega)
              have f10 : bi b 10 = 0 := bi_no (by omega)
              have f11 : bi b 11 = 0 := bi_no (by omega)
              have f12 : bi b 12 = 0 := bi_no (by omega)
              have f13 : bi b 13 = 0 := bi_no (by omega)
              have f14 : bi b 14 = 0 := bi_no (by omega)
              have f15 : bi b 15 = 0 := bi_no (by omega)
              have f16 : bi b 16 = 0 := bi_no (by omega)
              have ew := wof_of (a := x114) (b := 0) (c := 0) (n := num b) (by omega) (by omega) (by omega) (by simp only [num, f0, f1, f2, f3, f4, f5, f6, f7, f8, f9, f10, f11, f12, f13, f14, f15, f16]; omega)
              exact ⟨congrArg (fun l : List Int => Value.agg (l.map (Value.int .u64)).toArray) ew, B426⟩
          · refine EC_exit ?_
            refine thn_x ?_
            refine thn_x ?_
            refine inB_hit ?_
            refine thn_n ?_
            refine EC_seq ?_
            refine EC_reg ?_
            refine EL_val (.agg (([x95, 0, 0] : List Int).map (Value.int .u64)).toArray) w96 rfl (r_loadAll rfl A97' Try.underlying49 rfl (Eq.trans (show _ = some 3 from by kernel_rfl) (congrArg some (by first | (simp; done) | (simp; omega) | rfl)))) ?_
            refine EL_storeAll (v := .agg (([x95, 0, 0] : List Int).map (Value.int .u64)).toArray) (cs' := (([x95, 0, 0] : List Int).map (Value.int .u64)).toArray) rfl rfl rfl A102 (by first | rfl | (simp; done) | (simp; omega)) (Eq.trans (show _ = some 3 from by kernel_rfl) (congrArg some (by first | (simp; done) | (simp; omega) | rfl))) (ints_oneCell _ _) ?_
            intro w428 A429 K430 z431
            have A429' : Arr w428 b11 49 (([x95, 0, 0] : List Int).map (Value.int .u64)) := by simpa using A429
            have B432 : Below w.heap.size w w428 := below_kept B100 K430 (Nat.le_trans (Nat.le_refl _) (Nat.le_of_eq k13.symm)) (B100.size)
            have A433 : Arr w428 b18 49 (([x95, 0, 0] : List Int).map (Value.int .u64)) := A97'.grew K430 (by simp; omega)
            refine EL_nil ?_
            refine thn_n ?_
            refine EC_ret ?_
            refine fin1c Try.results24 (show _ = ptr b11 from rfl) A429' Try.underlying49 rfl (by kernel_rfl) ⟨_, rfl, ?_⟩
            have f0 : bi b 0 = (b28.toNat : Int) := bi_of (i := 0) hb29
            have f1 : bi b 1 = (b47.toNat : Int) := bi_of (i := 1) hb48
            have f2 : bi b 2 = (b66.toNat : Int) := bi_of (i := 2) hb67
            have f3 : bi b 3 = (b85.toNat : Int) := bi_of (i := 3) hb86
            have f4 : bi b 4 = 0 := bi_no (by omega)
            have f5 : bi b 5 = 0 := bi_no (by omega)
            have f6 : bi b 6 = 0 := bi_no (by omega)
            have f7 : bi b 7 = 0 := bi_no (by omega)
            have f8 : bi b 8 = 0 := bi_no (by omega)
            have f9 : bi b 9 = 0 := bi_no (by omega)
            have f10 : bi b 10 = 0 := bi_no (by omega)
            have f11 : bi b 11 = 0 := bi_no (by omega)
            have f12 : bi b 12 = 0 := bi_no (by omega)
            have f13 : bi b 13 = 0 := bi_no (by omega)
            have f14 : bi b 14 = 0 := bi_no (by omega)
            have f15 : bi b 15 = 0 := bi_no (by omega)
            have f16 : bi b 16 = 0 := bi_no (by omega)
            have ew := wof_of (a := x95) (b := 0) (c := 0) (n := num b) (by omega) (by omega) (by omega) (by simp only [num, f0, f1, f2, f3, f4, f5, f6, f7, f8, f9, f10, f11, f12, f13, f14, f15, f16]; omega)
            exact ⟨congrArg (fun l : List Int => Value.agg (l.map (Value.int .u64)).toArray) ew, B432⟩
        · refine EC_exit ?_
          refine thn_x ?_
          refine thn_x ?_
          refine inB_hit ?_
          refine thn_n ?_
          refine EC_seq ?_
          refine EC_reg ?_
          refine EL_val (.agg (([x76, 0, 0] : List Int).map (Value.int .u64)).toArray) w77 rfl (r_loadAll rfl A78' Try.underlying49 rfl (Eq.trans (show _ = some 3 from by kernel_rfl) (congrArg some (by first | (simp; done) | (simp; omega) | rfl)))) ?_
          refine EL_storeAll (v := .agg (([x76, 0, 0] : List Int).map (Value.int .u64)).toArray) (cs' := (([x76, 0, 0] : List Int).map (Value.int .u64)).toArray) rfl rfl rfl A83 (by first | rfl | (simp; done) | (simp; omega)) (Eq.trans (show _ = some 3 from by kernel_rfl) (congrArg some (by first | (simp; done) | (simp; omega) | rfl))) (ints_oneCell _ _) ?_
          intro w434 A435 K436 z437
          have A435' : Arr w434 b11 49 (([x76, 0, 0] : List Int).map (Value.int .u64)) := by simpa using A435
          have B438 : Below w.heap.size w w434 := below_kept B81 K436 (Nat.le_trans (Nat.le_refl _) (Nat.le_of_eq k13.symm)) (B81.size)
          have A439 : Arr w434 b18 49 (([x76, 0, 0] : List Int).map (Value.int .u64)) := A78'.grew K436 (by simp; omega)
          refine EL_nil ?_
          refine thn_n ?_
          refine EC_ret ?_
          refine fin1c Try.results24 (show _ = ptr b11 from rfl) A435' Try.underlying49 rfl (by kernel_rfl) ⟨_, rfl, ?_⟩
          have f0 : bi b 0 = (b28.toNat : Int) := bi_of (i := 0) hb29
          have f1 : bi b 1 = (b47.toNat : Int) := bi_of (i := 1) hb48
          have f2 : bi b 2 = (b66.toNat : Int) := bi_of (i := 2) hb67
          have f3 : bi b 3 = 0 := bi_no (by omega)
          have f4 : bi b 4 = 0 := bi_no (by omega)
          have f5 : bi b 5 = 0 := bi_no (by omega)
          have f6 : bi b 6 = 0 := bi_no (by omega)
          have f7 : bi b 7 = 0 := bi_no (by omega)
          have f8 : bi b 8 = 0 := bi_no (by omega)
          have f9 : bi b 9 = 0 := bi_no (by omega)
          have f10 : bi b 10 = 0 := bi_no (by omega)
          have f11 : bi b 11 = 0 := bi_no (by omega)
          have f12 : bi b 12 = 0 := bi_no (by omega)
          have f13 : bi b 13 = 0 := bi_no (by omega)
          have f14 : bi b 14 = 0 := bi_no (by omega)
          have f15 : bi b 15 = 0 := bi_no (by omega)
          have f16 : bi b 16 = 0 := bi_no (by omega)
          have ew := wof_of (a := x76) (b := 0) (c := 0) (n := num b) (by omega) (by omega) (by omega) (by simp only [num, f0, f1, f2, f3, f4, f5, f6, f7, f8, f9, f10, f11, f12, f13, f14, f15, f16]; omega)
          exact ⟨congrArg (fun l : List Int => Value.agg (l.map (Value.int .u64)).toArray) ew, B438⟩
      · refine EC_exit ?_
        refine thn_x ?_
        refine thn_x ?_
        refine inB_hit ?_
        refine thn_n ?_
        refine EC_seq ?_
        refine EC_reg ?_
        refine EL_val (.agg (([x57, 0, 0] : List Int).map (Value.int .u64)).toArray) w58 rfl (r_loadAll rfl A59' Try.underlying49 rfl (Eq.trans (show _ = some 3 from by kernel_rfl) (congrArg some (by first | (simp; done) | (simp; omega) | rfl)))) ?_
        refine EL_storeAll (v := .agg (([x57, 0, 0] : List Int).map (Value.int .u64)).toArray) (cs' := (([x57, 0, 0] : List Int).map (Value.int .u64)).toArray) rfl rfl rfl A64 (by first | rfl | (simp; done) | (simp; omega)) (Eq.trans (show _ = some 3 from by kernel_rfl) (congrArg some (by first | (simp; done) | (simp; omega) | rfl))) (ints_oneCell _ _) ?_
        intro w440 A441 K442 z443
        have A441' : Arr w440 b11 49 (([x57, 0, 0] : List Int).map (Value.int .u64)) := by simpa using A441
        have B444 : Below w.heap.size w w440 := below_kept B62 K442 (Nat.le_trans (Nat.le_refl _) (Nat.le_of_eq k13.symm)) (B62.size)
        have A445 : Arr w440 b18 49 (([x57, 0, 0] : List Int).map (Value.int .u64)) := A59'.grew K442 (by simp; omega)
        refine EL_nil ?_
        refine thn_n ?_
        refine EC_ret ?_
        refine fin1c Try.results24 (show _ = ptr b11 from rfl) A441' Try.underlying49 rfl (by kernel_rfl) ⟨_, rfl, ?_⟩
        have f0 : bi b 0 = (b28.toNat : Int) := bi_of (i := 0) hb29
        have f1 : bi b 1 = (b47.toNat : Int) := bi_of (i := 1) hb48
        have f2 : bi b 2 = 0 := bi_no (by omega)
        have f3 : bi b 3 = 0 := bi_no (by omega)
        have f4 : bi b 4 = 0 := bi_no (by omega)
        have f5 : bi b 5 = 0 := bi_no (by omega)
        have f6 : bi b 6 = 0 := bi_no (by omega)
        have f7 : bi b 7 = 0 := bi_no (by omega)
        have f8 : bi b 8 = 0 := bi_no (by omega)
        have f9 : bi b 9 = 0 := bi_no (by omega)
        have f10 : bi b 10 = 0 := bi_no (by omega)
        have f11 : bi b 11 = 0 := bi_no (by omega)
        have f12 : bi b 12 = 0 := bi_no (by omega)
        have f13 : bi b 13 = 0 := bi_no (by omega)
        have f14 : bi b 14 = 0 := bi_no (by omega)
        have f15 : bi b 15 = 0 := bi_no (by omega)
        have f16 : bi b 16 = 0 := bi_no (by omega)
        have ew := wof_of (a := x57) (b := 0) (c := 0) (n := num b) (by omega) (by omega) (by omega) (by simp only [num, f0, f1, f2, f3, f4, f5, f6, f7, f8, f9, f10, f11, f12, f13, f14, f15, f16]; omega)
        exact ⟨congrArg (fun l : List Int => Value.agg (l.map (Value.int .u64)).toArray) ew, B444⟩
    · refine EC_exit ?_
      refine thn_x ?_
      refine thn_x ?_
      refine inB_hit ?_
      refine thn_n ?_
      refine EC_seq ?_
      refine EC_reg ?_
      refine EL_val (.agg (([x38, 0, 0] : List Int).map (Value.int .u64)).toArray) w39 rfl (r_loadAll rfl A40' Try.underlying49 rfl (Eq.trans (show _ = some 3 from by kernel_rfl) (congrArg some (by first | (simp; done) | (simp; omega) | rfl)))) ?_
      refine EL_storeAll (v := .agg (([x38, 0, 0] : List Int).map (Value.int .u64)).toArray) (cs' := (([x38, 0, 0] : List Int).map (Value.int .u64)).toArray) rfl rfl rfl A45 (by first | rfl | (simp; done) | (simp; omega)) (Eq.trans (show _ = some 3 from by kernel_rfl) (congrArg some (by first | (simp; done) | (simp; omega) | rfl))) (ints_oneCell _ _) ?_
      intro w446 A447 K448 z449
      have A447' : Arr w446 b11 49 (([x38, 0, 0] : List Int).map (Value.int .u64)) := by simpa using A447
      have B450 : Below w.heap.size w w446 := below_kept B43 K448 (Nat.le_trans (Nat.le_refl _) (Nat.le_of_eq k13.symm)) (B43.size)
      have A451 : Arr w446 b18 49 (([x38, 0, 0] : List Int).map (Value.int .u64)) := A40'.grew K448 (by simp; omega)
      refine EL_nil ?_
      refine thn_n ?_
      refine EC_ret ?_
      refine fin1c Try.results24 (show _ = ptr b11 from rfl) A447' Try.underlying49 rfl (by kernel_rfl) ⟨_, rfl, ?_⟩
      have f0 : bi b 0 = (b28.toNat : Int) := bi_of (i := 0) hb29
      have f1 : bi b 1 = 0 := bi_no (by omega)
      have f2 : bi b 2 = 0 := bi_no (by omega)
      have f3 : bi b 3 = 0 := bi_no (by omega)
      have f4 : bi b 4 = 0 := bi_no (by omega)
      have f5 : bi b 5 = 0 := bi_no (by omega)
      have f6 : bi b 6 = 0 := bi_no (by omega)
      have f7 : bi b 7 = 0 := bi_no (by omega)
      have f8 : bi b 8 = 0 := bi_no (by omega)
      have f9 : bi b 9 = 0 := bi_no (by omega)
      have f10 : bi b 10 = 0 := bi_no (by omega)
      have f11 : bi b 11 = 0 := bi_no (by omega)
      have f12 : bi b 12 = 0 := bi_no (by omega)
      have f13 : bi b 13 = 0 := bi_no (by omega)
      have f14 : bi b 14 = 0 := bi_no (by omega)
      have f15 : bi b 15 = 0 := bi_no (by omega)
      have f16 : bi b 16 = 0 := bi_no (by omega)
      have ew := wof_of (a := x38) (b := 0) (c := 0) (n := num b) (by omega) (by omega) (by omega) (by simp only [num, f0, f1, f2, f3, f4, f5, f6, f7, f8, f9, f10, f11, f12, f13, f14, f15, f16]; omega)
      exact ⟨congrArg (fun l : List Int => Value.agg (l.map (Value.int .u64)).toArray) ew, B450⟩
  · refine EC_exit ?_
    refine thn_x ?_
    refine thn_x ?_
    refine inB_hit ?_
    refine thn_n ?_
    refine EC_seq ?_
    refine EC_reg ?_
    refine EL_val (.agg ((List.replicate 3 0).map (Value.int .u64)).toArray) w19 rfl (r_loadAll rfl A21' Try.underlying49 rfl (Eq.trans (show _ = some 3 from by kernel_rfl) (congrArg some (by first | (simp; done) | (simp; omega) | rfl)))) ?_
    refine EL_storeAll (v := .agg ((List.replicate 3 0).map (Value.int .u64)).toArray) (cs' := ((List.replicate 3 0).map (Value.int .u64)).toArray) rfl rfl rfl (A14'.below B26) (by first | rfl | (simp; done) | (simp; omega)) (Eq.trans (show _ = some 3 from by kernel_rfl) (congrArg some (by first | (simp; done) | (simp; omega) | rfl))) (ints_oneCell _ _) ?_
    intro w452 A453 K454 z455
    have A453' : Arr w452 b11 49 ((List.replicate 3 0).map (Value.int .u64)) := by simpa using A453
    have B456 : Below w.heap.size w w452 := below_kept B25 K454 (Nat.le_trans (Nat.le_refl _) (Nat.le_of_eq k13.symm)) (B25.size)
    have A457 : Arr w452 b18 49 ((List.replicate 3 0).map (Value.int .u64)) := A21'.grew K454 (by simp; omega)
    refine EL_nil ?_
    refine thn_n ?_
    refine EC_ret ?_
    refine fin1c Try.results24 (show _ = ptr b11 from rfl) A453' Try.underlying49 rfl (by kernel_rfl) ⟨_, rfl, ?_⟩
    have f0 : bi b 0 = 0 := bi_no (by omega)
    have f1 : bi b 1 = 0 := bi_no (by omega)
    have f2 : bi b 2 = 0 := bi_no (by omega)
    have f3 : bi b 3 = 0 := bi_no (by omega)
    have f4 : bi b 4 = 0 := bi_no (by omega)
    have f5 : bi b 5 = 0 := bi_no (by omega)
    have f6 : bi b 6 = 0 := bi_no (by omega)
    have f7 : bi b 7 = 0 := bi_no (by omega)
    have f8 : bi b 8 = 0 := bi_no (by omega)
    have f9 : bi b 9 = 0 := bi_no (by omega)
    have f10 : bi b 10 = 0 := bi_no (by omega)
    have f11 : bi b 11 = 0 := bi_no (by omega)
    have f12 : bi b 12 = 0 := bi_no (by omega)
    have f13 : bi b 13 = 0 := bi_no (by omega)
    have f14 : bi b 14 = 0 := bi_no (by omega)
    have f15 : bi b 15 = 0 := bi_no (by omega)
    have f16 : bi b 16 = 0 := bi_no (by omega)
    have ew := wof_of (a := 0) (b := 0) (c := 0) (n := num b) (by omega) (by omega) (by omega) (by simp only [num, f0, f1, f2, f3, f4, f5, f6, f7, f8, f9, f10, f11, f12, f13, f14, f15, f16]; omega)
    exact ⟨congrArg (fun l : List Int => Value.agg (l.map (Value.int .u64)).toArray) ew, B456⟩

end Go.Proofs.Ytlhaojpkejpgfaa
