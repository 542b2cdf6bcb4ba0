import Derived.Test.YtlhaojpkejpgfaaChaB
set_option linter.unusedVariables false
set_option linter.unusedSimpArgs false
namespace Go.Proofs.Ytlhaojpkejpgfaa
open Go.RowKit Go.Ecal

set_option maxHeartbeats 2000000 in
theorem Block_ok (v0 : Value) (k : List UInt8) (c : Int) (v1 : Value) (n : List UInt8) (w : World) (H0 : Bs w v0 k) (H1 : Bs w v1 n) (h : chk k n c = 0) : Ret Try.prog 15 [v0, .int .i64 c, v1] w fun v w' => ∃ p, v = .tuple #[p, .int .i64 0] ∧ w'.ownsRow w.heap.size 5 1 p (kb k c n).length ((kb k c n).map byt) ∧ Below w.heap.size w w' := by
  obtain ⟨hk, hn, hc0, hc1⟩ := chk_ok h
  refine ret_E Try.func15 rfl Try.ntmps15 (by simp) ?_
  refine EC_seq ?_
  refine EC_reg ?_
  refine EL_val (.slice none 0 0) w rfl (r_assign rfl) ?_
  refine EL_val (.int .i64 0) w rfl (r_assign rfl) ?_
  refine EL_nil ?_
  refine thn_n ?_
  refine EC_seq ?_
  refine EC_seq ?_
  refine EC_reg ?_
  refine EL_val v0 w rfl (r_move rfl) ?_
  refine EL_val (.int .i64 c) w rfl (r_move rfl) ?_
  refine EL_val v1 w rfl (r_move rfl) ?_
  refine EL_ret [v0, .int .i64 c, v1] rfl Try.func21 rfl nm21 rfl (check_at v0 k c v1 n w H0 H1 0 h) ?_
  rintro _ _ ⟨rfl, rfl⟩
  refine EL_val (.int .i64 0) w rfl (r_assign rfl) ?_
  refine EL_nil ?_
  refine thn_n ?_
  refine EC_seq ?_
  refine EC_reg ?_
  refine EL_val (.int .i64 0) w rfl (r_move rfl) ?_
  refine EL_val (.bool false) w rfl (r_dec (by decide) (r_neq rfl rfl)) ?_
  refine EL_nil ?_
  refine thn_n ?_
  refine EC_cond_false rfl ?_
  refine EC_skip ?_
  refine thn_n ?_
  refine EC_seq ?_
  refine EC_reg ?_
  refine EL_val v0 w rfl (r_move rfl) ?_
  refine EL_val (.int .i64 c) w rfl (r_move rfl) ?_
  refine EL_val v1 w rfl (r_move rfl) ?_
  refine EL_ret [v0, .int .i64 c, v1] rfl Try.func22 rfl nm22 rfl (first_c v0 k c v1 n w H0 H1 (by omega) (by omega) (by omega)) ?_
  rintro _ w11 ⟨rfl, B12⟩
  have B13 : Below w.heap.size w w11 := B12
  refine EL_ret [.agg ((st k c n).map (Value.int .u32)).toArray] rfl Try.func23 rfl nm23 rfl (block_c (st k c n) (OK_st _ _ (by omega)) w11) ?_
  rintro p14 w17 ⟨O15, B16⟩
  have := B16.size
  have B18 : Below w.heap.size w w17 := below_full B13 B13.size B16
  have B19 : Below w11.heap.size w11 w17 := B16
  refine EL_val p14 w17 rfl (r_assign rfl) ?_
  refine EL_val (.int .i64 0) w17 rfl (r_assign rfl) ?_
  refine EL_nil ?_
  refine thn_n ?_
  refine EC_ret ?_
  refine fin2 Try.results15 (show _ = p14 from rfl) (show _ = .int .i64 0 from rfl) ⟨_, rfl, ?_⟩
  exact ⟨_, rfl, (own_mono O15 B13.size), B18⟩

set_option maxHeartbeats 2000000 in
theorem Block_no (v0 : Value) (k : List UInt8) (c : Int) (v1 : Value) (n : List UInt8) (w : World) (H0 : Bs w v0 k) (H1 : Bs w v1 n) (e : Int) (h : chk k n c = e) (h0 : e ≠ 0) : Ret Try.prog 15 [v0, .int .i64 c, v1] w fun v w' => v = .tuple #[.slice none 0 0, .int .i64 e] ∧ w = w' := by
  refine ret_E Try.func15 rfl Try.ntmps15 (by simp) ?_
  refine EC_seq ?_
  refine EC_reg ?_
  refine EL_val (.slice none 0 0) w rfl (r_assign rfl) ?_
  refine EL_val (.int .i64 0) w rfl (r_assign rfl) ?_
  refine EL_nil ?_
  refine thn_n ?_
  refine EC_seq ?_
  refine EC_seq ?_
  refine EC_reg ?_
  refine EL_val v0 w rfl (r_move rfl) ?_
  refine EL_val (.int .i64 c) w rfl (r_move rfl) ?_
  refine EL_val v1 w rfl (r_move rfl) ?_
  refine EL_ret [v0, .int .i64 c, v1] rfl Try.func21 rfl nm21 rfl (check_at v0 k c v1 n w H0 H1 e h) ?_
  rintro _ _ ⟨rfl, rfl⟩
  refine EL_val (.int .i64 e) w rfl (r_assign rfl) ?_
  refine EL_nil ?_
  refine thn_n ?_
  refine EC_seq ?_
  refine EC_reg ?_
  refine EL_val (.int .i64 e) w rfl (r_move rfl) ?_
  refine EL_val (.bool (decide (e ≠ 0))) w rfl (r_neq rfl rfl) ?_
  refine EL_nil ?_
  refine thn_n ?_
  refine EC_cond_true (Eq.trans (show _ = Value.bool (decide (e ≠ 0)) from rfl) (congrArg Value.bool (show (decide (e ≠ 0)) = true from by simpa using h0))) ?_
  refine EC_seq ?_
  refine EC_reg ?_
  refine EL_val (.int .i64 e) w rfl (r_move rfl) ?_
  refine EL_val (.slice none 0 0) w rfl (r_assign rfl) ?_
  refine EL_val (.int .i64 e) w rfl (r_assign rfl) ?_
  refine EL_nil ?_
  refine thn_n ?_
  refine EC_ret ?_
  refine thn_r ?_
  refine fin2 Try.results15 (show _ = .slice none 0 0 from rfl) (show _ = .int .i64 e from rfl) ⟨_, rfl, ?_⟩
  exact ⟨rfl, rfl⟩

set_option maxHeartbeats 2000000 in
theorem XOR_no (v0 : Value) (k : List UInt8) (c : Int) (v1 : Value) (n : List UInt8) (v2 : Value) (t : List UInt8) (w : World) (H0 : Bs w v0 k) (H1 : Bs w v1 n) (H2 : Bs w v2 t) (e : Int) (h : chk k n c = e) (h0 : e ≠ 0) : Ret Try.prog 14 [v0, .int .i64 c, v1, v2] w fun v w' => v = .tuple #[.slice none 0 0, .int .i64 e] ∧ w = w' := by
  refine ret_E Try.func14 rfl Try.ntmps14 (by simp) ?_
  refine EC_seq ?_
  refine EC_reg ?_
  refine EL_val (.slice none 0 0) w rfl (r_assign rfl) ?_
  refine EL_val (.int .i64 0) w rfl (r_assign rfl) ?_
  refine EL_nil ?_
  refine thn_n ?_
  refine EC_seq ?_
  refine EC_seq ?_
  refine EC_reg ?_
  refine EL_val v0 w rfl (r_move rfl) ?_
  refine EL_val (.int .i64 c) w rfl (r_move rfl) ?_
  refine EL_val v1 w rfl (r_move rfl) ?_
  refine EL_ret [v0, .int .i64 c, v1] rfl Try.func21 rfl nm21 rfl (check_at v0 k c v1 n w H0 H1 e h) ?_
  rintro _ _ ⟨rfl, rfl⟩
  refine EL_val (.int .i64 e) w rfl (r_assign rfl) ?_
  refine EL_nil ?_
  refine thn_n ?_
  refine EC_seq ?_
  refine EC_reg ?_
  refine EL_val (.int .i64 e) w rfl (r_move rfl) ?_
  refine EL_val (.bool (decide (e ≠ 0))) w rfl (r_neq rfl rfl) ?_
  refine EL_nil ?_
  refine thn_n ?_
  refine EC_cond_true (Eq.trans (show _ = Value.bool (decide (e ≠ 0)) from rfl) (congrArg Value.bool (show (decide (e ≠ 0)) = true from by simpa using h0))) ?_
  refine EC_seq ?_
  refine EC_reg ?_
  refine EL_val (.int .i64 e) w rfl (r_move rfl) ?_
  refine EL_val (.slice none 0 0) w rfl (r_assign rfl) ?_
  refine EL_val (.int .i64 e) w rfl (r_assign rfl) ?_
  refine EL_nil ?_
  refine thn_n ?_
  refine EC_ret ?_
  refine thn_r ?_
  refine fin2 Try.results14 (show _ = .slice none 0 0 from rfl) (show _ = .int .i64 e from rfl) ⟨_, rfl, ?_⟩
  exact ⟨rfl, rfl⟩

set_option maxHeartbeats 2000000 in
theorem XOR_ok (v0 : Value) (k : List UInt8) (c : Int) (v1 : Value) (n : List UInt8) (v2 : Value) (t : List UInt8) (w : World) (H0 : Bs w v0 k) (H1 : Bs w v1 n) (H2 : Bs w v2 t) (h : chk k n c = 0) (ht : t.length ≤ 1000000) : Ret Try.prog 14 [v0, .int .i64 c, v1, v2] w fun v w' => ∃ p, v = .tuple #[p, .int .i64 0] ∧ w'.ownsRow w.heap.size 5 1 p (xo k c n t).length ((xo k c n t).map byt) ∧ Below w.heap.size w w' := by
  obtain ⟨hk, hn, hc0, hc1⟩ := chk_ok h
  refine ret_E Try.func14 rfl Try.ntmps14 (by simp) ?_
  refine EC_seq ?_
  refine EC_reg ?_
  refine EL_val (.slice none 0 0) w rfl (r_assign rfl) ?_
  refine EL_val (.int .i64 0) w rfl (r_assign rfl) ?_
  refine EL_nil ?_
  refine thn_n ?_
  refine EC_seq ?_
  refine EC_seq ?_
  refine EC_reg ?_
  refine EL_val v0 w rfl (r_move rfl) ?_
  refine EL_val (.int .i64 c) w rfl (r_move rfl) ?_
  refine EL_val v1 w rfl (r_move rfl) ?_
  refine EL_ret [v0, .int .i64 c, v1] rfl Try.func21 rfl nm21 rfl (check_at v0 k c v1 n w H0 H1 0 h) ?_
  rintro _ _ ⟨rfl, rfl⟩
  refine EL_val (.int .i64 0) w rfl (r_assign rfl) ?_
  refine EL_nil ?_
  refine thn_n ?_
  refine EC_seq ?_
  refine EC_reg ?_
  refine EL_val (.int .i64 0) w rfl (r_move rfl) ?_
  refine EL_val (.bool false) w rfl (r_dec (by decide) (r_neq rfl rfl)) ?_
  refine EL_nil ?_
  refine thn_n ?_
  refine EC_cond_false rfl ?_
  refine EC_skip ?_
  refine thn_n ?_
  refine EC_seq ?_
  refine EC_reg ?_
  refine EL_val v0 w rfl (r_move rfl) ?_
  refine EL_val (.int .i64 c) w rfl (r_move rfl) ?_
  refine EL_val v1 w rfl (r_move rfl) ?_
  refine EL_ret [v0, .int .i64 c, v1] rfl Try.func22 rfl nm22 rfl (first_c v0 k c v1 n w H0 H1 (by omega) (by omega) (by omega)) ?_
  rintro _ w11 ⟨rfl, B12⟩
  have B13 : Below w.heap.size w w11 := B12
  refine EL_alloc (z := .agg #[.int .u32 0, .int .u32 0, .int .u32 0, .int .u32 0, .int .u32 0, .int .u32 0, .int .u32 0, .int .u32 0, .int .u32 0, .int .u32 0, .int .u32 0, .int .u32 0, .int .u32 0, .int .u32 0, .int .u32 0, .int .u32 0]) (List.replicate 16 (.int .u32 0)) rfl (by kernel_rfl) rfl ?_
  intro b14 w15 k16 A17 B18 z19
  have B20 : Below w.heap.size w w15 := below_full B13 B13.size B18
  have B21 : Below w11.heap.size w11 w15 := B18
  have A17' : Arr w15 b14 44 ((List.replicate 16 0).map (Value.int .u32)) := A17
  refine EL_storeAll (v := .agg ((st k c n).map (Value.int .u32)).toArray) (cs' := ((st k c n).map (Value.int .u32)).toArray) rfl rfl rfl A17' (by first | rfl | (simp; done) | (simp; omega)) (Eq.trans (show _ = some 16 from by kernel_rfl) (congrArg some (by first | (simp; done) | (simp; omega) | rfl))) (ints_oneCell _ _) ?_
  intro w22 A23 K24 z25
  have A23' : Arr w22 b14 44 ((st k c n).map (Value.int .u32)) := by simpa using A23
  have B26 : Below w.heap.size w w22 := below_kept B20 K24 (Nat.le_trans B13.size (Nat.le_of_eq k16.symm)) (B20.size)
  have B27 : Below w11.heap.size w11 w22 := below_kept B21 K24 (Nat.le_trans (Nat.le_refl _) (Nat.le_of_eq k16.symm)) (B21.size)
  refine EL_nil ?_
  refine thn_n ?_
  refine EC_seq ?_
  refine EC_reg ?_
  refine EL_val v2 w22 rfl (r_move rfl) ?_
  refine EL_val (.int .i64 (t.length : Int)) w22 rfl (lenB (r_len rfl (H2.below B26) Try.underlying22)) ?_
  refine EL_make w22.heap.size elB rfl rfl rfl rfl (by omega) (by omega) (by omega) (by omega) (Nat.le_refl _) ?_
  intro v28 w29 O30 B31 k32 z33
  have B34 : Below w.heap.size w w29 := below_full B26 B26.size B31
  have B35 : Below w11.heap.size w11 w29 := below_full B27 B27.size B31
  have B36 : Below w22.heap.size w22 w29 := B31
  have O37 := own_rep O30
  refine EL_val v28 w29 rfl (r_assign rfl) ?_
  refine EL_nil ?_
  refine thn_n ?_
  refine EC_seq ?_
  refine EC_reg ?_
  refine EL_val (.slice none 0 0) w29 rfl (r_assign rfl) ?_
  refine EL_nil ?_
  refine thn_n ?_
  refine EC_seq ?_
  refine EC_seq ?_
  refine EC_reg ?_
  refine EL_val v2 w29 rfl (r_move rfl) ?_
  refine EL_val (.int .i64 (t.length : Int)) w29 rfl (lenB (r_len rfl (H2.below B34) Try.underlying22)) ?_
  refine EL_val (.int .i64 0) w29 rfl (r_move rfl) ?_
  refine EL_nil ?_
  refine thn_n ?_
  refine EC_block ?_
  have far1 := own_lt O37
  have far2 : ∀ g, some b14 = some g → g < w22.heap.size := fun g hg => by cases hg; omega
  have far3 : w22.heap.size ≤ w29.heap.size := by omega
  refine EC_loop (fun m' E' w' => ∃ i : Int, ∃ bv : Value, ∃ ol : List UInt8, m' = (t.length - i).toNat ∧ E' 32 = .int .i64 i ∧ E' 13 = bv ∧ E' 8 = .slice none 0 0 ∧ E' 9 = .int .i64 0 ∧ E' 11 = ptr b14 ∧ E' 12 = v28 ∧ E' 30 = v2 ∧ E' 31 = .int .i64 (t.length : Int) ∧ (0 ≤ i ∧ i ≤ (t.length : Int)) ∧ (ol.length = t.length) ∧ (∀ j u, j < i.toNat → t[j]? = some u → ol[j]? = some (u ^^^ ks k c n j)) ∧ (i % 64 = 0 ∨ w'.ownsRow w29.heap.size 5 1 bv (kb k ((c + i / 64) % 4294967296) n).length ((kb k ((c + i / 64) % 4294967296) n).map byt)) ∧ (w29.heap.size ≤ w'.heap.size) ∧ Below w.heap.size w w' ∧ Below w11.heap.size w11 w' ∧ w'.ownsRow w22.heap.size 5 1 v28 (ol).length ((ol).map byt) ∧ Arr w' b14 44 ((st k ((c + (i + 63) / 64) % 4294967296) n).map (Value.int .u32))) _ ⟨0, .slice none 0 0, List.replicate ((t.length : Int) : Int).toNat (0 : UInt8), rfl, rfl, rfl, rfl, rfl, rfl, rfl, rfl, rfl, by omega, by simp, fun j u hj => absurd hj (by simp), .inl rfl, Nat.le_refl _, B34, B35, O37, by rw [show (c + (0 + 63) / 64) % 4294967296 = c from by omega]; exact (A23'.below B36)⟩ ?_
  rintro _ E38 w39 ⟨i, bv, ol, rfl, e40, e41, e42, e43, e44, e45, e46, e47, hi, hol, hod, hbv, hsz, B48, B49, O50, A51⟩
  refine EC_seq ?_
  refine EC_reg ?_
  refine EL_val (.bool (decide (i < (t.length : Int)))) w39 rfl (r_lss (by exact e40) (by exact e47)) ?_
  refine EL_nil ?_
  refine thn_n ?_
  refine EC_seq ?_
  refine EC_if (p := i < (t.length : Int)) rfl (fun h52 => ?_) (fun h52 => ?_)
  · refine EC_skip ?_
    refine thn_n ?_
    refine EC_seq ?_
    refine EC_block ?_
    refine EC_seq ?_
    refine EC_reg ?_
    have stl : (st k ((c + (i + 63) / 64) % 4294967296) n).length = 16 := rfl
    refine EL_val (.int .i64 i) w39 rfl (r_move (by exact e40)) ?_
    refine EL_val (.pointer (some (at_ v2 ((i : Int).toNat)))) w39 rfl (r_index (by exact e46) (H2.below B48) (by exact e40) (by omega) (by first | omega | (simp; omega) | simp) Try.underlying22 (by kernel_rfl)) ?_
    obtain ⟨b53, hb54⟩ := get_some (l := t) (j := (i : Int).toNat) (by omega)
    have hb55 := b53.toNat_lt
    refine EL_val (.int .u8 (b53.toNat : Int)) w39 rfl (r_load rfl ((H2.below B48).cell (bs_get hb54)) Try.underlying5 rfl) ?_
    refine EL_val (.int .i64 i) w39 rfl (r_assign rfl) ?_
    refine EL_val (.int .u8 (b53.toNat : Int)) w39 rfl (r_assign rfl) ?_
    refine EL_nil ?_
    refine thn_n ?_
    refine EC_seq ?_
    refine EC_seq ?_
    refine EC_reg ?_
    refine EL_val (.int .i64 i) w39 rfl (r_move rfl) ?_
    refine EL_int (i % 64) rfl (r_remi rfl rfl (by omega) (by omega)) ?_
    intro x56 hx56
    refine EL_val (.bool (decide (x56 = 0))) w39 rfl (r_eql rfl rfl) ?_
    refine EL_nil ?_
    refine thn_n ?_
    refine EC_if (p := x56 = 0) rfl (fun h57 => ?_) (fun h57 => ?_)
    · refine EC_seq ?_
      refine EC_reg ?_
      refine EL_val (.agg ((st k ((c + (i + 63) / 64) % 4294967296) n).map (Value.int .u32)).toArray) w39 rfl (r_loadAll (by exact e44) A51 Try.underlying44 rfl (Eq.trans (show _ = some 16 from by kernel_rfl) (congrArg some (by first | (simp; done) | (simp; omega) | rfl)))) ?_
      refine EL_ret [.agg ((st k ((c + (i + 63) / 64) % 4294967296) n).map (Value.int .u32)).toArray] rfl Try.func23 rfl nm23 rfl (block_c (st k ((c + (i + 63) / 64) % 4294967296) n) (OK_st _ _ (by omega)) w39) ?_
      rintro p58 w61 ⟨O59, B60⟩
      have := B60.size
      have B62 : Below w.heap.size w w61 := below_full B48 B48.size B60
      have B63 : Below w11.heap.size w11 w61 := below_full B49 B49.size B60
      have B64 : Below w39.heap.size w39 w61 := B60
      refine EL_val p58 w61 rfl (r_assign rfl) ?_
      refine EL_nil ?_
      refine thn_n ?_
      refine EC_reg ?_
      refine EL_val (ptr b14 12) w61 rfl (r_indexA (i := 12) (by exact e44) rfl (by omega) (by omega) Try.underlying44 (by kernel_rfl)) ?_
      obtain ⟨x65, hx66⟩ := get_some (l := st k ((c + (i + 63) / 64) % 4294967296) n) (j := 12) (by first | omega | (simp; omega) | simp)
      have := (OK_st k (c := (c + (i + 63) / 64) % 4294967296) n (by omega)).get hx66
      refine EL_val (.int .u32 x65) w61 rfl (r_loadA rfl (A51.below B64) (int_get hx66) Try.underlying42 rfl) ?_
      refine EL_int ((x65 + 1) % 4294967296) rfl (r_addw rfl rfl) ?_
      intro x67 hx67
      refine EL_val (ptr b14 12) w61 rfl (r_indexA (i := 12) (by exact e44) rfl (by omega) (by omega) Try.underlying44 (by kernel_rfl)) ?_
      refine EL_storeA (j := 12) (u := .int .u32 x67) rfl rfl (A51.below B64) (by first | (simp; omega) | simp) rfl (by kernel_rfl) ?_
      intro w68 A69 K70 z71
      have A69' : Arr w68 b14 44 (((st k ((c + (i + 63) / 64) % 4294967296) n).set 12 x67).map (Value.int .u32)) := by simpa [List.map_set] using A69
      have B72 : Below w.heap.size w w68 := below_kept B62 K70 (Nat.le_trans B13.size (Nat.le_of_eq k16.symm)) (B62.size)
      have B73 : Below w11.heap.size w11 w68 := below_kept B63 K70 (Nat.le_trans (Nat.le_refl _) (Nat.le_of_eq k16.symm)) (B63.size)
      have F74 := own_far (own_below O50 B64) K70 (fun g hg => Nat.lt_of_lt_of_le (far2 g hg) (Nat.le_refl _))
      have F75 := own_far O59 K70 (fun g hg => Nat.lt_of_lt_of_le (far2 g hg) (Nat.le_trans far3 hsz))
      refine EL_nil ?_
      refine thn_n ?_
      refine EC_reg ?_
      refine EL_val v28 w68 rfl (r_move (by exact e45)) ?_
      refine EL_val (.int .i64 i) w68 rfl (r_move rfl) ?_
      refine EL_val (.int .u8 (b53.toNat : Int)) w68 rfl (r_move rfl) ?_
      have := kb_len k ((c + i / 64) % 4294967296) n
      have := blk_len (st k ((c + (i + 63) / 64) % 4294967296) n)
      refine EL_val p58 w68 rfl (r_move rfl) ?_
      refine EL_val (.int .i64 i) w68 rfl (r_move rfl) ?_
      refine EL_int (i % 64) rfl (r_remi rfl rfl (by omega) (by omega)) ?_
      intro x76 hx76
      refine EL_val (.pointer (some (at_ p58 ((x76 : Int).toNat)))) w68 rfl (r_index rfl (own_row F75) rfl (by omega) (by first | omega | (simp; omega) | simp) Try.underlying22 (by kernel_rfl)) ?_
      obtain ⟨b77, hb78⟩ := get_some (l := blk (st k ((c + (i + 63) / 64) % 4294967296) n)) (j := (x76 : Int).toNat) (by omega)
      have hb79 := b77.toNat_lt
      refine EL_val (.int .u8 (b77.toNat : Int)) w68 rfl (r_load rfl ((own_row F75).cell (bs_get hb78)) Try.underlying5 rfl) ?_
      refine EL_val (.int .u8 ((b53 ^^^ b77).toNat : Int)) w68 rfl (r_xorb (a := b53) (b := b77) rfl rfl) ?_
      refine EL_val (.pointer (some (at_ v28 ((i : Int).toNat)))) w68 rfl (r_index rfl (own_row F74) rfl (by omega) (by first | omega | (simp; omega) | simp) Try.underlying22 (by kernel_rfl)) ?_
      refine EL_store (u := byt (b53 ^^^ b77)) rfl rfl F74 (by first | omega | (simp; omega)) rfl (by kernel_rfl) ?_
      intro w80 O81 G82 z83
      have O81' := own_set O81
      have B84 : Below w.heap.size w w80 := below_grew B72 G82 F74 B26.size (B72.size)
      have B85 : Below w11.heap.size w11 w80 := below_grew B73 G82 F74 B27.size (B73.size)
      have F86 := own_far F75 G82 (fun g hg => Nat.lt_of_lt_of_le (far1 g hg) hsz)
      have A87 : Arr w80 b14 44 (((st k ((c + (i + 63) / 64) % 4294967296) n).set 12 x67).map (Value.int .u32)) := arr_far A69' G82 F74 (fun g hg => Nat.lt_of_lt_of_le (far2 g hg) (Nat.le_refl _))
      refine EL_nil ?_
      refine inB_n ?_
      refine thn_n ?_
      refine EC_reg ?_
      refine EL_int (i + 1) rfl (r_addi (by exact e40) rfl (by omega)) ?_
      intro x88 hx88
      refine EL_val (.int .i64 x88) w80 rfl (r_move rfl) ?_
      refine EL_nil ?_
      refine thn_n ?_
      have ei : x88.toNat = i.toNat + 1 := by omega
      have ej : ((i.toNat : Nat) : Int) = i := by omega
      have ex : x65 = (c + (i + 63) / 64) % 4294967296 := by have := hx66; simp [st] at this; omega
      have ek : blk (st k ((c + (i + 63) / 64) % 4294967296) n) = kb k ((c + i / 64) % 4294967296) n := by rw [show (c + i / 64) % 4294967296 = (c + (i + 63) / 64) % 4294967296 from by omega]; rfl
      have ea : (st k ((c + (i + 63) / 64) % 4294967296) n).set 12 x67 = st k ((c + (x88 + 63) / 64) % 4294967296) n := by rw [show (c + (x88 + 63) / 64) % 4294967296 = x67 from by omega]; rfl
      have R9 : w80.ownsRow w29.heap.size 5 1 p58 (kb k ((c + i / 64) % 4294967296) n).length ((kb k ((c + i / 64) % 4294967296) n).map byt) := own_as (own_mono F86 hsz) ek
      have hb9 : (kb k ((c + ((i.toNat : Nat) : Int) / 64) % 4294967296) n)[i.toNat % 64]? = some b77 := by rw [ej, ← ek, show i.toNat % 64 = (x76 : Int).toNat from by omega]; exact hb78
      refine ⟨_, ?_, x88, p58, ol.set ((i : Int).toNat) (b53 ^^^ b77), rfl, rfl, rfl, (by exact e42), (by exact e43), (by exact e44), (by exact e45), (by exact e46), (by exact e47), by omega, by simp; omega, by rw [ei]; have := od_step hol hod hb54 hb9; skip; exact this, if h9 : x88 % 64 = 0 then .inl h9 else .inr (by rw [show (c + x88 / 64) % 4294967296 = (c + i / 64) % 4294967296 from by omega]; exact R9), by omega, B84, B85, O81', by rw [← ea]; exact A87⟩
      first | omega | (simp; omega)
    · refine EC_skip ?_
      refine thn_n ?_
      refine EC_reg ?_
      refine EL_val v28 w39 rfl (r_move (by exact e45)) ?_
      refine EL_val (.int .i64 i) w39 rfl (r_move rfl) ?_
      refine EL_val (.int .u8 (b53.toNat : Int)) w39 rfl (r_move rfl) ?_
      have R8 := hbv.resolve_left (by omega)
      have := kb_len k ((c + i / 64) % 4294967296) n
      have := blk_len (st k ((c + (i + 63) / 64) % 4294967296) n)
      refine EL_val bv w39 rfl (r_move (by exact e41)) ?_
      refine EL_val (.int .i64 i) w39 rfl (r_move rfl) ?_
      refine EL_int (i % 64) rfl (r_remi rfl rfl (by omega) (by omega)) ?_
      intro x89 hx89
      refine EL_val (.pointer (some (at_ bv ((x89 : Int).toNat)))) w39 rfl (r_index rfl (own_row R8) rfl (by omega) (by first | omega | (simp; omega) | simp) Try.underlying22 (by kernel_rfl)) ?_
      obtain ⟨b90, hb91⟩ := get_some (l := kb k ((c + i / 64) % 4294967296) n) (j := (x89 : Int).toNat) (by omega)
      have hb92 := b90.toNat_lt
      refine EL_val (.int .u8 (b90.toNat : Int)) w39 rfl (r_load rfl ((own_row R8).cell (bs_get hb91)) Try.underlying5 rfl) ?_
      refine EL_val (.int .u8 ((b53 ^^^ b90).toNat : Int)) w39 rfl (r_xorb (a := b53) (b := b90) rfl rfl) ?_
      refine EL_val (.pointer (some (at_ v28 ((i : Int).toNat)))) w39 rfl (r_index rfl (own_row O50) rfl (by omega) (by first | omega | (simp; omega) | simp) Try.underlying22 (by kernel_rfl)) ?_
      refine EL_store (u := byt (b53 ^^^ b90)) rfl rfl O50 (by first | omega | (simp; omega)) rfl (by kernel_rfl) ?_
      intro w93 O94 G95 z96
      have O94' := own_set O94
      have B97 : Below w.heap.size w w93 := below_grew B48 G95 O50 B26.size (B48.size)
      have B98 : Below w11.heap.size w11 w93 := below_grew B49 G95 O50 B27.size (B49.size)
      have F100 := own_far R8 G95 (fun g hg => Nat.lt_of_lt_of_le (far1 g hg) (Nat.le_refl _))
      have A101 : Arr w93 b14 44 ((st k ((c + (i + 63) / 64) % 4294967296) n).map (Value.int .u32)) := arr_far A51 G95 O50 (fun g hg => Nat.lt_of_lt_of_le (far2 g hg) (Nat.le_refl _))
      refine EL_nil ?_
      refine inB_n ?_
      refine thn_n ?_
      refine EC_reg ?_
      refine EL_int (i + 1) rfl (r_addi (by exact e40) rfl (by omega)) ?_
      intro x102 hx102
      refine EL_val (.int .i64 x102) w93 rfl (r_move rfl) ?_
      refine EL_nil ?_
      refine thn_n ?_
      have ei : x102.toNat = i.toNat + 1 := by omega
      have ej : ((i.toNat : Nat) : Int) = i := by omega
      have ek : kb k ((c + i / 64) % 4294967296) n = kb k ((c + i / 64) % 4294967296) n := rfl
      have ea : st k ((c + (i + 63) / 64) % 4294967296) n = st k ((c + (x102 + 63) / 64) % 4294967296) n := by rw [show (c + (x102 + 63) / 64) % 4294967296 = (c + (i + 63) / 64) % 4294967296 from by omega]
      have R9 : w93.ownsRow w29.heap.size 5 1 bv (kb k ((c + i / 64) % 4294967296) n).length ((kb k ((c + i / 64) % 4294967296) n).map byt) := own_as F100 ek
      have hb9 : (kb k ((c + ((i.toNat : Nat) : Int) / 64) % 4294967296) n)[i.toNat % 64]? = some b90 := by rw [ej, ← ek, show i.toNat % 64 = (x89 : Int).toNat from by omega]; exact hb91
      refine ⟨_, ?_, x102, bv, ol.set ((i : Int).toNat) (b53 ^^^ b90), rfl, rfl, (by exact e41), (by exact e42), (by exact e43), (by exact e44), (by exact e45), (by exact e46), (by exact e47), by omega, by simp; omega, by rw [ei]; have := od_step hol hod hb54 hb9; skip; exact this, if h9 : x102 % 64 = 0 then .inl h9 else .inr (by rw [show (c + x102 / 64) % 4294967296 = (c + i / 64) % 4294967296 from by omega]; exact R9), by omega, B97, B98, O94', by rw [← ea]; exact A101⟩
      first | omega | (simp; omega)
  · refine EC_exit ?_
    refine thn_x ?_
    refine thn_x ?_
    refine inB_hit ?_
    refine thn_n ?_
    refine EC_seq ?_
    refine EC_reg ?_
    refine EL_val v28 w39 rfl (r_move (by exact e45)) ?_
    refine EL_val v28 w39 rfl (r_assign rfl) ?_
    refine EL_val (.int .i64 0) w39 rfl (r_assign rfl) ?_
    refine EL_nil ?_
    refine thn_n ?_
    refine EC_ret ?_
    refine fin2 Try.results14 (show _ = v28 from rfl) (show _ = .int .i64 0 from rfl) ⟨_, rfl, ?_⟩
    have e9 : ol = xo k c n t := xo_of hol (fun j u hj hu => hod j u (by omega) hu)
    exact ⟨_, rfl, own_as (own_mono O50 B26.size) e9, B48⟩

end Go.Proofs.Ytlhaojpkejpgfaa
