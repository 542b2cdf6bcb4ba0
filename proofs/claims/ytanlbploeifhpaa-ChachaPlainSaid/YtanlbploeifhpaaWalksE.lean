import Derived.Test.YtanlbploeifhpaaWalksD
set_option linter.unusedVariables false
set_option linter.unusedSimpArgs false
namespace Go.Proofs.Ytanlbploeifhpaa
open Go.RowKit Go.Ecal

set_option maxHeartbeats 2000000 in
theorem anchor_c (w : World) : Ret Try.prog 9 [] w fun v w' => v = .bool true ∧ Below w.heap.size w w' := by
  have hkl0 := kb_len ankey 1 [(0 : UInt8), (0 : UInt8), (0 : UInt8), (9 : UInt8), (0 : UInt8), (0 : UInt8), (0 : UInt8), (74 : UInt8), (0 : UInt8), (0 : UInt8), (0 : UInt8), (0 : UInt8)]
  have hlr : (List.replicate (32 : Int).toNat (0 : UInt8)).length = 32 := by decide
  refine ret_E Try.func9 rfl Try.ntmps9 (by simp) ?_
  refine EC_seq ?_
  refine EC_reg ?_
  refine EL_val (.bool false) w rfl (r_assign rfl) ?_
  refine EL_nil ?_
  refine thn_n ?_
  refine EC_seq ?_
  refine EC_reg ?_
  refine EL_make w.heap.size elB rfl rfl rfl rfl (by omega) (by omega) (by omega) (by omega) (Nat.le_refl _) ?_
  intro v11 w12 O13 B14 k15 z16
  have B17 : Below w.heap.size w w12 := B14
  have O18 := own_rep O13
  refine EL_val v11 w12 rfl (r_assign rfl) ?_
  refine EL_nil ?_
  refine thn_n ?_
  refine EC_seq ?_
  refine EC_seq ?_
  refine EC_reg ?_
  refine EL_val v11 w12 rfl (r_move rfl) ?_
  refine EL_val (.int .i64 ((List.replicate (32 : Int).toNat (0 : UInt8)).length : Int)) w12 rfl (lenB (r_len rfl (own_row O18) Try.underlying22)) ?_
  refine EL_val (.int .i64 0) w12 rfl (r_move rfl) ?_
  refine EL_nil ?_
  refine thn_n ?_
  refine EC_block ?_
  refine EC_loop (fun m' E' w' => ∃ i : Int, ∃ kl : List UInt8, m' = (32 - i).toNat ∧ E' 8 = .int .i64 i ∧ E' 0 = .bool false ∧ E' 1 = v11 ∧ E' 7 = .int .i64 ((List.replicate (32 : Int).toNat (0 : UInt8)).length : Int) ∧ (0 ≤ i ∧ i ≤ 32) ∧ (kl.length = 32) ∧ (∀ j, j < i.toNat → kl[j]? = some (UInt8.ofNat j)) ∧ Below w.heap.size w w' ∧ w'.ownsRow w.heap.size 5 1 v11 (kl).length ((kl).map byt)) _ ⟨0, List.replicate (32 : Int).toNat (0 : UInt8), rfl, rfl, rfl, rfl, rfl, by omega, by simp, fun j hj => absurd hj (by simp), B17, O18⟩ ?_
  rintro _ E19 w20 ⟨i, kl, rfl, e21, e22, e23, e24, hi, hkl, hkd, B25, O26⟩
  refine EC_seq ?_
  refine EC_reg ?_
  refine EL_val (.bool (decide (i < ((List.replicate (32 : Int).toNat (0 : UInt8)).length : Int)))) w20 rfl (r_lss (by exact e21) (by exact e24)) ?_
  refine EL_nil ?_
  refine thn_n ?_
  refine EC_seq ?_
  refine EC_if (p := i < ((List.replicate (32 : Int).toNat (0 : UInt8)).length : Int)) rfl (fun h27 => ?_) (fun h27 => ?_)
  · refine EC_skip ?_
    refine thn_n ?_
    refine EC_seq ?_
    refine EC_block ?_
    refine EC_seq ?_
    refine EC_reg ?_
    refine EL_val (.int .i64 i) w20 rfl (r_move (by exact e21)) ?_
    refine EL_val (.int .i64 i) w20 rfl (r_assign rfl) ?_
    refine EL_nil ?_
    refine thn_n ?_
    refine EC_reg ?_
    refine EL_val v11 w20 rfl (r_move (by exact e23)) ?_
    refine EL_val (.int .i64 i) w20 rfl (r_move rfl) ?_
    refine EL_val (.int .i64 i) w20 rfl (r_move rfl) ?_
    refine EL_val (.int .u8 (i % 256)) w20 rfl (r_convb 3 5 rfl Try.underlying3 Try.underlying5) ?_
    refine EL_val (.pointer (some (at_ v11 ((i : Int).toNat)))) w20 rfl (r_index rfl (own_row O26) rfl (by omega) (by first | omega | (simp; omega) | simp) Try.underlying22 (by kernel_rfl)) ?_
    refine EL_store (u := byt (bof i)) rfl (Eq.trans (show _ = Value.int .u8 (i % 256) from rfl) (bof_val _)) O26 (by first | omega | (simp; omega)) rfl (by kernel_rfl) ?_
    intro w28 O29 G30 z31
    have O29' := own_set O29
    have B32 : Below w.heap.size w w28 := below_grew B25 G30 O26 (Nat.le_refl _) (B25.size)
    refine EL_nil ?_
    refine inB_n ?_
    refine thn_n ?_
    refine EC_reg ?_
    refine EL_int (i + 1) rfl (r_addi (by exact e21) rfl (by omega)) ?_
    intro x33 hx33
    refine EL_val (.int .i64 x33) w28 rfl (r_move rfl) ?_
    refine EL_nil ?_
    refine thn_n ?_
    refine ⟨_, ?_, x33, kl.set ((i : Int).toNat) (bof i), rfl, rfl, (by exact e22), (by exact e23), (by exact e24), by omega, by simp; omega, ank_step hkl hkd (by omega) (by omega), B32, O29'⟩
    first | omega | (simp; omega)
  · refine EC_exit ?_
    refine thn_x ?_
    refine thn_x ?_
    refine inB_hit ?_
    refine thn_n ?_
    refine EC_seq ?_
    refine EC_reg ?_
    have ek : kl = ankey := ank_of hkl (fun j hj => hkd j (by omega))
    have O34 := own_as O26 ek
    refine EL_val v11 w20 rfl (r_move (by exact e23)) ?_
    refine EL_lit w20.heap.size #[.int .u8 0, .int .u8 0, .int .u8 0, .int .u8 9, .int .u8 0, .int .u8 0, .int .u8 0, .int .u8 74, .int .u8 0, .int .u8 0, .int .u8 0, .int .u8 0] elB rfl (by decide) rfl (Nat.le_refl _) (by kernel_rfl) ?_
    intro v35 w36 O37 B38 k39 z40
    have B41 : Below w.heap.size w w36 := below_full B25 B25.size B38
    have B42 : Below w20.heap.size w20 w36 := B38
    have O37' := own_eq (l := [(0 : UInt8), (0 : UInt8), (0 : UInt8), (9 : UInt8), (0 : UInt8), (0 : UInt8), (0 : UInt8), (74 : UInt8), (0 : UInt8), (0 : UInt8), (0 : UInt8), (0 : UInt8)]) O37 (by simp [bof_val, byt])
    refine EL_ret [v11, .int .i64 1, v35] rfl Try.func10 rfl nm10 rfl (Block_ok v11 ankey 1 v35 [(0 : UInt8), (0 : UInt8), (0 : UInt8), (9 : UInt8), (0 : UInt8), (0 : UInt8), (0 : UInt8), (74 : UInt8), (0 : UInt8), (0 : UInt8), (0 : UInt8), (0 : UInt8)] w36 ((own_row O34).below B42) (own_row O37') ank_chk) ?_
    rintro _ w46 ⟨p43, rfl, O44, B45⟩
    have B47 : Below w.heap.size w w46 := below_full B41 B41.size B45
    have B48 : Below w20.heap.size w20 w46 := below_full B42 B42.size B45
    have B49 : Below w36.heap.size w36 w46 := B45
    refine EL_val (.tuple #[p43, .int .i64 0]) w46 rfl (r_move rfl) ?_
    refine EL_val p43 w46 rfl (r_extract rfl rfl) ?_
    refine EL_val (.int .i64 0) w46 rfl (r_extract rfl rfl) ?_
    refine EL_val p43 w46 rfl (r_assign rfl) ?_
    refine EL_val (.int .i64 0) w46 rfl (r_assign rfl) ?_
    refine EL_nil ?_
    refine thn_n ?_
    refine EC_seq ?_
    refine EC_reg ?_
    refine EL_val (.int .i64 0) w46 rfl (r_move rfl) ?_
    refine EL_val (.bool true) w46 rfl (r_dec (by decide) (r_eql rfl rfl)) ?_
    refine EL_val (.bool true) w46 rfl (r_move rfl) ?_
    refine EL_gval 25 rfl rfl rfl rfl p43 w46 rfl (r_move rfl) ?_
    refine EL_gval 25 rfl rfl rfl rfl (.int .i64 ((kb ankey 1 [(0 : UInt8), (0 : UInt8), (0 : UInt8), (9 : UInt8), (0 : UInt8), (0 : UInt8), (0 : UInt8), (74 : UInt8), (0 : UInt8), (0 : UInt8), (0 : UInt8), (0 : UInt8)]).length : Int)) w46 rfl (lenB (r_len rfl (own_row O44) Try.underlying22)) ?_
    refine EL_gval 25 rfl rfl rfl rfl (.bool true) w46 rfl (r_dec (show (decide (((kb ankey 1 [(0 : UInt8), (0 : UInt8), (0 : UInt8), (9 : UInt8), (0 : UInt8), (0 : UInt8), (0 : UInt8), (74 : UInt8), (0 : UInt8), (0 : UInt8), (0 : UInt8), (0 : UInt8)]).length : Int) = 64)) = true from by rw [kb_len]; rfl) (r_eql rfl rfl)) ?_
    refine EL_val (.bool true) w46 rfl (r_pickT rfl rfl) ?_
    refine EL_val (.bool true) w46 rfl (r_move rfl) ?_
    refine EL_gval 30 rfl rfl rfl rfl p43 w46 rfl (r_move rfl) ?_
    refine EL_gval 30 rfl rfl rfl rfl (cutV p43 0 8) w46 rfl (r_slice rfl (own_row O44) Try.underlying22 (by kernel_rfl) 0 8 (by first | omega | (simp; omega) | simp) (by first | omega | (simp; omega) | simp) (.inl ⟨rfl, rfl⟩) (.inr ⟨_, _, rfl, rfl⟩)) ?_
    have R50 : Bs w46 (cutV p43 0 8) ((kb ankey 1 [(0 : UInt8), (0 : UInt8), (0 : UInt8), (9 : UInt8), (0 : UInt8), (0 : UInt8), (0 : UInt8), (74 : UInt8), (0 : UInt8), (0 : UInt8), (0 : UInt8), (0 : UInt8)]).take 8) := Bs.upto (own_row O44) 8 (by first | omega | (simp; omega) | simp)
    have L51 : ((kb ankey 1 [(0 : UInt8), (0 : UInt8), (0 : UInt8), (9 : UInt8), (0 : UInt8), (0 : UInt8), (0 : UInt8), (74 : UInt8), (0 : UInt8), (0 : UInt8), (0 : UInt8), (0 : UInt8)]).take 8).length = 8 - 0 := by first | (simp; done) | (simp; omega)
    refine EL_gval 30 rfl rfl rfl rfl (.string (str ((kb ankey 1 [(0 : UInt8), (0 : UInt8), (0 : UInt8), (9 : UInt8), (0 : UInt8), (0 : UInt8), (0 : UInt8), (74 : UInt8), (0 : UInt8), (0 : UInt8), (0 : UInt8), (0 : UInt8)]).take 8))) w46 rfl (r_str rfl R50 Try.underlying22 Try.underlying5 Try.underlying9) ?_
    refine EL_gval 30 rfl rfl rfl rfl (.bool true) w46 rfl (r_dec (show (decide (((kb ankey 1 [(0 : UInt8), (0 : UInt8), (0 : UInt8), (9 : UInt8), (0 : UInt8), (0 : UInt8), (0 : UInt8), (74 : UInt8), (0 : UInt8), (0 : UInt8), (0 : UInt8), (0 : UInt8)]).take 8) = ([16, 241, 231, 228, 209, 59, 89, 21] : List UInt8))) = true from by rw [ank_val]; rfl) (r_eqls rfl rfl)) ?_
    refine EL_val (.bool true) w46 rfl (r_pickT rfl rfl) ?_
    refine EL_val (.bool true) w46 rfl (r_assign rfl) ?_
    refine EL_nil ?_
    refine thn_n ?_
    refine EC_ret ?_
    refine fin1 Try.results9 (show _ = .bool true from rfl) ⟨_, rfl, ?_⟩
    exact ⟨rfl, B47⟩

end Go.Proofs.Ytanlbploeifhpaa
