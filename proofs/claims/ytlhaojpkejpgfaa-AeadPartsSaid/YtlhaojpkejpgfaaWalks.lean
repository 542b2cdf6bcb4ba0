import Derived.Test.YtlhaojpkejpgfaaBase
import Derived.Test.YtlhaojpkejpgfaaTwo
set_option linter.unusedVariables false
set_option linter.unusedSimpArgs false
namespace Go.Proofs.Ytlhaojpkejpgfaa
open Go.RowKit Go.Ecal

set_option maxRecDepth 100000 in
set_option maxHeartbeats 4000000 in
theorem Equal_c (v0 : Value) (a : List UInt8) (v1 : Value) (b : List UInt8) (w : World) (H0 : Bs w v0 a) (H1 : Bs w v1 b) : Ret Try.prog 20 [v0, v1] w fun v w' => v = .bool (decide (a = b)) ∧ Below w.heap.size w w' := by
  have la := H0.len_le
  simp only [List.length_map] at la
  refine ret_E Try.func20 rfl Try.ntmps20 (by simp) ?_
  refine EC_seq ?_
  refine EC_reg ?_
  refine EL_val (.bool false) w rfl (r_assign rfl) ?_
  refine EL_nil ?_
  refine thn_n ?_
  refine EC_seq ?_
  refine EC_seq ?_
  refine EC_reg ?_
  refine EL_val v0 w rfl (r_move rfl) ?_
  refine EL_val (.int .i64 (a.length : Int)) w rfl (lenB (r_len rfl H0 Try.underlying22)) ?_
  refine EL_val v1 w rfl (r_move rfl) ?_
  refine EL_val (.int .i64 (b.length : Int)) w rfl (lenB (r_len rfl H1 Try.underlying22)) ?_
  refine EL_val (.bool (decide ((a.length : Int) ≠ (b.length : Int)))) w rfl (r_neq rfl rfl) ?_
  refine EL_nil ?_
  refine thn_n ?_
  refine EC_if (p := (a.length : Int) ≠ (b.length : Int)) rfl (fun h11 => ?_) (fun h11 => ?_)
  · have hne : ¬ (a.length : Int) = b.length := h11
    refine EC_seq ?_
    refine EC_reg ?_
    refine EL_val (.bool false) w rfl (r_assign rfl) ?_
    refine EL_nil ?_
    refine thn_n ?_
    refine EC_ret ?_
    refine thn_r ?_
    refine fin1 Try.results20 (show _ = .bool false from rfl) ⟨_, rfl, ?_⟩
    exact ⟨congrArg Value.bool (by symm; apply decide_eq_false; intro h; rw [h] at hne; exact hne rfl), (Below.refl _ _)⟩
  · have heq : (a.length : Int) = b.length := by omega
    refine EC_skip ?_
    refine thn_n ?_
    refine EC_seq ?_
    refine EC_reg ?_
    refine EL_val (.int .u8 0) w rfl (r_assign rfl) ?_
    refine EL_nil ?_
    refine thn_n ?_
    refine EC_seq ?_
    refine EC_seq ?_
    refine EC_reg ?_
    refine EL_val v0 w rfl (r_move rfl) ?_
    refine EL_val (.int .i64 (a.length : Int)) w rfl (lenB (r_len rfl H0 Try.underlying22)) ?_
    refine EL_val (.int .i64 0) w rfl (r_move rfl) ?_
    refine EL_nil ?_
    refine thn_n ?_
    refine EC_block ?_
    refine EC_loop (fun m' E' w' => ∃ i : Int, ∃ x : UInt8, m' = (a.length - i).toNat ∧ E' 14 = .int .i64 i ∧ E' 5 = .int .u8 (x.toNat : Int) ∧ E' 0 = v0 ∧ E' 1 = v1 ∧ E' 4 = .bool false ∧ E' 13 = .int .i64 (a.length : Int) ∧ (0 ≤ i ∧ i ≤ (a.length : Int)) ∧ (x = 0 ↔ ∀ j, j < i.toNat → a[j]? = b[j]?) ∧ Below w.heap.size w w') _ ⟨0, (0 : UInt8), rfl, rfl, rfl, rfl, rfl, rfl, rfl, by omega, ⟨fun _ j hj => by simp at hj, fun _ => rfl⟩, (Below.refl _ _)⟩ ?_
    rintro _ E12 w13 ⟨i, x, rfl, e14, e15, e16, e17, e18, e19, hi, hx, B20⟩
    refine EC_seq ?_
    refine EC_reg ?_
    refine EL_val (.bool (decide (i < (a.length : Int)))) w13 rfl (r_lss (by exact e14) (by exact e19)) ?_
    refine EL_nil ?_
    refine thn_n ?_
    refine EC_seq ?_
    refine EC_if (p := i < (a.length : Int)) rfl (fun h21 => ?_) (fun h21 => ?_)
    · refine EC_skip ?_
      refine thn_n ?_
      refine EC_seq ?_
      refine EC_block ?_
      refine EC_seq ?_
      refine EC_reg ?_
      refine EL_val (.int .i64 i) w13 rfl (r_move (by exact e14)) ?_
      refine EL_val (.int .i64 i) w13 rfl (r_assign rfl) ?_
      refine EL_nil ?_
      refine thn_n ?_
      refine EC_quietB (by kernel_rfl) (by kernel_rfl) ?_
      refine EQ_val (.int .u8 (x.toNat : Int)) rfl (fun _ hw => r_move (by exact e15)) ?_
      refine EQ_val v0 rfl (fun _ hw => r_move (by exact e16)) ?_
      refine EQ_val (.int .i64 i) rfl (fun _ hw => r_move rfl) ?_
      refine EQ_val (.pointer (some (at_ v0 ((i : Int).toNat)))) rfl (fun _ hw => r_index rfl ((H0.below B20).below hw) rfl (by omega) (by first | omega | (simp; omega) | simp) Try.underlying22 (by kernel_rfl)) ?_
      obtain ⟨b22, hb23⟩ := get_some (l := a) (j := (i : Int).toNat) (by omega)
      have hb24 := b22.toNat_lt
      refine EQ_val (.int .u8 (b22.toNat : Int)) rfl (fun _ hw => r_load rfl (((H0.below B20).below hw).cell (bs_get hb23)) Try.underlying5 rfl) ?_
      refine EQ_val v1 rfl (fun _ hw => r_move (by exact e17)) ?_
      refine EQ_val (.int .i64 i) rfl (fun _ hw => r_move rfl) ?_
      refine EQ_val (.pointer (some (at_ v1 ((i : Int).toNat)))) rfl (fun _ hw => r_index rfl ((H1.below B20).below hw) rfl (by omega) (by first | omega | (simp; omega) | simp) Try.underlying22 (by kernel_rfl)) ?_
      obtain ⟨b25, hb26⟩ := get_some (l := b) (j := (i : Int).toNat) (by omega)
      have hb27 := b25.toNat_lt
      refine EQ_val (.int .u8 (b25.toNat : Int)) rfl (fun _ hw => r_load rfl (((H1.below B20).below hw).cell (bs_get hb26)) Try.underlying5 rfl) ?_
      refine EQ_val (.int .u8 ((b22 ^^^ b25).toNat : Int)) rfl (fun _ hw => r_xorb (a := b22) (b := b25) rfl rfl) ?_
      refine EQ_val (.int .u8 ((x ||| (b22 ^^^ b25)).toNat : Int)) rfl (fun _ hw => r_orb (a := x) (b := (b22 ^^^ b25)) rfl rfl) ?_
      refine EQ_val (.int .u8 ((x ||| (b22 ^^^ b25)).toNat : Int)) rfl (fun _ hw => r_assign rfl) ?_
      refine EQ_nil ?_
      intro w28 B29
      have B30 : Below w.heap.size w w28 := below_full B20 B20.size B29
      have B31 : Below w13.heap.size w13 w28 := B29
      refine inB_n ?_
      refine thn_n ?_
      refine EC_reg ?_
      refine EL_int (i + 1) rfl (r_addi (by exact e14) rfl (by omega)) ?_
      intro x32 hx32
      refine EL_val (.int .i64 x32) w28 rfl (r_move rfl) ?_
      refine EL_nil ?_
      refine thn_n ?_
      have inv := eq_step hx hb23 hb26
      rw [show i.toNat + 1 = (x32 : Int).toNat from by omega] at inv
      refine ⟨_, ?_, x32, (x ||| (b22 ^^^ b25)), rfl, rfl, rfl, (by exact e16), (by exact e17), (by exact e18), (by exact e19), by omega, inv, B30⟩
      first | omega | (simp; omega)
    · refine EC_exit ?_
      refine thn_x ?_
      refine thn_x ?_
      refine inB_hit ?_
      refine thn_n ?_
      refine EC_seq ?_
      refine EC_reg ?_
      refine EL_val (.int .u8 (x.toNat : Int)) w13 rfl (r_move (by exact e15)) ?_
      refine EL_val (.bool (decide ((x.toNat : Int) = 0))) w13 rfl (r_eql rfl rfl) ?_
      refine EL_val (.bool (decide ((x.toNat : Int) = 0))) w13 rfl (r_assign rfl) ?_
      refine EL_nil ?_
      refine thn_n ?_
      refine EC_ret ?_
      refine fin1 Try.results20 (show _ = .bool (decide ((x.toNat : Int) = 0)) from rfl) ⟨_, rfl, ?_⟩
      exact ⟨congrArg Value.bool (by rw [← eq_all hx (by omega) (by omega)]; apply decide_eq_decide.2; constructor <;> intro h <;> first | (apply UInt8.toNat_inj.1; simpa using h) | (rw [h]; rfl)), B20⟩

set_option maxRecDepth 100000 in
set_option maxHeartbeats 4000000 in
theorem filled_c (v0 : Value) (l : List UInt8) (v1 : Value) (b : List UInt8) (h : World) (h2 : World) (w : World) (HBh : Below h.heap.size h w) (HB2 : Below h2.heap.size h2 w) (h2h : h2.heap.size ≤ h.heap.size) (H1 : Bs h2 v1 b) (hl : l.length ≤ 1000000) (hb : b.length ≤ 1000000) (H0 : w.ownsRow h.heap.size 5 1 v0 l.length (l.map byt)) : Ret Try.prog 28 [v0, v1] w fun v w' => w'.ownsRow h.heap.size 5 1 v (l ++ fil b).length ((l ++ fil b).map byt) ∧ w.grownBy w' v0.ownBlock ∧ Below h.heap.size h w' ∧ ∀ g, v.ownBlock = some g → w.heap.size ≤ g ∨ v0.ownBlock = some g := by
  refine ret_E Try.func28 rfl Try.ntmps28 (by simp) ?_
  refine EC_seq ?_
  refine EC_reg ?_
  refine EL_val (.slice none 0 0) w rfl (r_assign rfl) ?_
  refine EL_nil ?_
  refine thn_n ?_
  refine EC_seq ?_
  refine EC_reg ?_
  refine EL_val v0 w rfl (r_move rfl) ?_
  refine EL_val v1 w rfl (r_move rfl) ?_
  refine EL_append (v := v0) (xs := l.map byt) (ys := b.map byt) h.heap.size elB rfl rfl rfl (by simpa using H0) (H1.below HB2) (byt_one _) (by first | (simp only [List.length_map, List.length_nil]; omega) | (simp; done) | (simp; omega)) (by decide) HBh.size ?_
  intro v11 w12 O13 G14 A15
  have O13' := own_app O13
  have Q16 : ∀ g, v11.ownBlock = some g → w.heap.size ≤ g ∨ v0.ownBlock = some g := fun g hg => A15.elim (fun e => (fun g hg => .inr hg) g (e.symm.trans hg)) (fun e => .inl (by have h1 := Option.some.inj (e.symm.trans hg); have h2 := Nat.le_refl w.heap.size; omega))
  have G17 : w.grownBy w12 v0.ownBlock := kept_trans (kept_refl _ _) G14
  have B19 : Below h.heap.size h w12 := below_grew HBh G14 H0 (Nat.le_refl _) (HBh.size)
  have B20 : Below h2.heap.size h2 w12 := below_grew HB2 G14 H0 h2h (HB2.size)
  refine EL_val v11 w12 rfl (r_assign rfl) ?_
  refine EL_nil ?_
  refine thn_n ?_
  refine EC_seq ?_
  refine EC_reg ?_
  refine EL_val v11 w12 rfl (r_move rfl) ?_
  refine EL_val v1 w12 rfl (r_move rfl) ?_
  refine EL_val (.int .i64 (b.length : Int)) w12 rfl (lenB (r_len rfl (H1.below B20) Try.underlying22)) ?_
  refine EL_int ((b.length : Int) % 16) rfl (r_remi rfl rfl (by omega) (by omega)) ?_
  intro x21 hx21
  refine EL_int (16 - x21) rfl (r_subi rfl rfl (by omega)) ?_
  intro x22 hx22
  refine EL_int (x22 % 16) rfl (r_remi rfl rfl (by omega) (by omega)) ?_
  intro x23 hx23
  refine EL_appendz (v := v11) (xs := (l ++ b).map byt) elB rfl rfl Try.underlying3 h.heap.size rfl rfl rfl (by omega) (by simpa using O13') (by first | (simp only [List.length_map, List.length_nil]; omega) | (simp; done) | (simp; omega)) (by decide) B19.size ?_
  intro v24 w25 O26 G27 A28
  have O26' := own_appz O26
  have Q29 : ∀ g, v24.ownBlock = some g → w.heap.size ≤ g ∨ v0.ownBlock = some g := fun g hg => A28.elim (fun e => Q16 g (e.symm.trans hg)) (fun e => .inl (by have h1 := Option.some.inj (e.symm.trans hg); have h2 := G17.size; omega))
  have G30 : w.grownBy w25 v0.ownBlock := kept_other G17 G27 Q16
  have B31 : Below h.heap.size h w25 := below_grew B19 G27 O13' (Nat.le_refl _) (B19.size)
  have B32 : Below h2.heap.size h2 w25 := below_grew B20 G27 O13' h2h (B20.size)
  refine EL_val v24 w25 rfl (r_assign rfl) ?_
  refine EL_nil ?_
  refine thn_n ?_
  refine EC_ret ?_
  refine fin1 Try.results28 (show _ = v24 from rfl) ⟨_, rfl, ?_⟩
  have ef : (l ++ b) ++ List.replicate (x23 : Int).toNat (0 : UInt8) = l ++ fil b := by rw [fil, ← List.append_assoc]; congr 2; unfold padn; omega
  exact ⟨own_as O26' ef, G30, B31, Q29⟩

set_option maxRecDepth 100000 in
set_option maxHeartbeats 4000000 in
theorem count_c (v0 : Value) (l : List UInt8) (n : Int) (h : World) (w : World) (HBh : Below h.heap.size h w) (hl : l.length ≤ 4000000) (hn : 0 ≤ n ∧ n ≤ 9223372036854775807) (H0 : w.ownsRow h.heap.size 5 1 v0 l.length (l.map byt)) : Ret Try.prog 29 [v0, .int .i64 n] w fun v w' => w'.ownsRow h.heap.size 5 1 v (l ++ e8 n).length ((l ++ e8 n).map byt) ∧ w.grownBy w' v0.ownBlock ∧ Below h.heap.size h w' ∧ ∀ g, v.ownBlock = some g → w.heap.size ≤ g ∨ v0.ownBlock = some g := by
  refine ret_E Try.func29 rfl Try.ntmps29 (by simp) ?_
  refine EC_seq ?_
  refine EC_reg ?_
  refine EL_val (.slice none 0 0) w rfl (r_assign rfl) ?_
  refine EL_nil ?_
  refine thn_n ?_
  refine EC_seq ?_
  refine EC_seq ?_
  refine EC_reg ?_
  refine EL_val (.int .i64 0) w rfl (r_move rfl) ?_
  refine EL_nil ?_
  refine thn_n ?_
  refine EC_block ?_
  refine EC_for 9 ?_
  refine U_step ?_
  refine EC_seq ?_
  refine EC_reg ?_
  refine EL_val (.bool true) w rfl (r_dec (by decide) (r_lss rfl rfl)) ?_
  refine EL_nil ?_
  refine thn_n ?_
  refine EC_seq ?_
  refine EC_cond_true rfl ?_
  refine EC_skip ?_
  refine thn_n ?_
  refine EC_seq ?_
  refine EC_block ?_
  refine EC_seq ?_
  refine EC_reg ?_
  refine EL_val (.int .i64 0) w rfl (r_move rfl) ?_
  refine EL_val (.int .i64 0) w rfl (r_assign rfl) ?_
  refine EL_nil ?_
  refine thn_n ?_
  refine EC_reg ?_
  refine EL_val v0 w rfl (r_move rfl) ?_
  refine EL_val (.int .i64 n) w rfl (r_move rfl) ?_
  refine EL_val (.int .i64 0) w rfl (r_move rfl) ?_
  refine EL_val (.int .i64 0) w rfl (r_asn (by kernel_rfl) (r_mul rfl rfl)) ?_
  refine EL_int (n / 1) rfl (r_shri (n := 0) rfl rfl rfl (by decide) (by decide)) ?_
  intro x11 hx11
  refine EL_val (.int .u8 (x11 % 256)) w rfl (r_convb 3 5 rfl Try.underlying3 Try.underlying5) ?_
  refine EL_lit w.heap.size #[.int .u8 (x11 % 256)] elB rfl (by decide) rfl (Nat.le_refl _) (by kernel_rfl) ?_
  intro v12 w13 O14 B15 k16 z17
  have G18 : w.grownBy w13 v0.ownBlock := kept_below (kept_refl _ _) B15
  have B19 : Below w.heap.size w w13 := B15
  have B20 : Below h.heap.size h w13 := below_full HBh HBh.size B15
  have O14' := own_eq (l := [bof x11]) O14 (by simp [bof_val, byt])
  refine EL_append (v := v0) (xs := l.map byt) (ys := [bof x11].map byt) h.heap.size elB rfl rfl rfl (by simpa using (own_below H0 B19)) (own_row O14') (byt_one _) (by first | (simp only [List.length_map, List.length_nil]; omega) | (simp; done) | (simp; omega)) (by decide) B20.size ?_
  intro v21 w22 O23 G24 A25
  have O23' := own_app O23
  have Q26 : ∀ g, v21.ownBlock = some g → w.heap.size ≤ g ∨ v0.ownBlock = some g := fun g hg => A25.elim (fun e => (fun g hg => .inr hg) g (e.symm.trans hg)) (fun e => .inl (by have h1 := Option.some.inj (e.symm.trans hg); have h2 := G18.size; omega))
  have G27 : w.grownBy w22 v0.ownBlock := kept_trans G18 G24
  have B29 : Below h.heap.size h w22 := below_grew B20 G24 (own_below H0 B19) (Nat.le_refl _) (B20.size)
  refine EL_val v21 w22 rfl (r_assign rfl) ?_
  refine EL_nil ?_
  refine inB_n ?_
  refine thn_n ?_
  refine EC_reg ?_
  refine EL_val (.int .i64 1) w22 rfl (r_asn (by kernel_rfl) (r_add rfl rfl)) ?_
  refine EL_val (.int .i64 1) w22 rfl (r_move rfl) ?_
  refine EL_nil ?_
  refine thn_n ?_
  refine U_step ?_
  refine EC_seq ?_
  refine EC_reg ?_
  refine EL_val (.bool true) w22 rfl (r_dec (by decide) (r_lss rfl rfl)) ?_
  refine EL_nil ?_
  refine thn_n ?_
  refine EC_seq ?_
  refine EC_cond_true rfl ?_
  refine EC_skip ?_
  refine thn_n ?_
  refine EC_seq ?_
  refine EC_block ?_
  refine EC_seq ?_
  refine EC_reg ?_
  refine EL_val (.int .i64 1) w22 rfl (r_move rfl) ?_
  refine EL_val (.int .i64 1) w22 rfl (r_assign rfl) ?_
  refine EL_nil ?_
  refine thn_n ?_
  refine EC_reg ?_
  refine EL_val v21 w22 rfl (r_move rfl) ?_
  refine EL_val (.int .i64 n) w22 rfl (r_move rfl) ?_
  refine EL_val (.int .i64 1) w22 rfl (r_move rfl) ?_
  refine EL_val (.int .i64 8) w22 rfl (r_asn (by kernel_rfl) (r_mul rfl rfl)) ?_
  refine EL_int (n / 256) rfl (r_shri (n := 8) rfl rfl rfl (by decide) (by decide)) ?_
  intro x31 hx31
  refine EL_val (.int .u8 (x31 % 256)) w22 rfl (r_convb 3 5 rfl Try.underlying3 Try.underlying5) ?_
  refine EL_lit w22.heap.size #[.int .u8 (x31 % 256)] elB rfl (by decide) rfl (Nat.le_refl _) (by kernel_rfl) ?_
  intro v32 w33 O34 B35 k36 z37
  have G38 : w.grownBy w33 v0.ownBlock := kept_below G27 B35
  have B39 : Below h.heap.size h w33 := below_full B29 B29.size B35
  have B40 : Below w22.heap.size w22 w33 := B35
  have O34' := own_eq (l := [bof x31]) O34 (by simp [bof_val, byt])
  refine EL_append (v := v21) (xs := (l ++ [bof x11]).map byt) (ys := [bof x31].map byt) h.heap.size elB rfl rfl rfl (by simpa using (own_below O23' B40)) (own_row O34') (byt_one _) (by first | (simp only [List.length_map, List.length_nil]; omega) | (simp; done) | (simp; omega)) (by decide) B39.size ?_
  intro v41 w42 O43 G44 A45
  have O43' := own_app O43
  have Q46 : ∀ g, v41.ownBlock = some g → w.heap.size ≤ g ∨ v0.ownBlock = some g := fun g hg => A45.elim (fun e => Q26 g (e.symm.trans hg)) (fun e => .inl (by have h1 := Option.some.inj (e.symm.trans hg); have h2 := G38.size; omega))
  have G47 : w.grownBy w42 v0.ownBlock := kept_other G38 G44 Q26
  have B48 : Below h.heap.size h w42 := below_grew B39 G44 (own_below O23' B40) (Nat.le_refl _) (B39.size)
  refine EL_val v41 w42 rfl (r_assign rfl) ?_
  refine EL_nil ?_
  refine inB_n ?_
  refine thn_n ?_
  refine EC_reg ?_
  refine EL_val (.int .i64 2) w42 rfl (r_asn (by kernel_rfl) (r_add rfl rfl)) ?_
  refine EL_val (.int .i64 2) w42 rfl (r_move rfl) ?_
  refine EL_nil ?_
  refine thn_n ?_
  refine U_step ?_
  refine EC_seq ?_
  refine EC_reg ?_
  refine EL_val (.bool true) w42 rfl (r_dec (by decide) (r_lss rfl rfl)) ?_
  refine EL_nil ?_
  refine thn_n ?_
  refine EC_seq ?_
  refine EC_cond_true rfl ?_
  refine EC_skip ?_
  refine thn_n ?_
  refine EC_seq ?_
  refine EC_block ?_
  refine EC_seq ?_
  refine EC_reg ?_
  refine EL_val (.int .i64 2) w42 rfl (r_move rfl) ?_
  refine EL_val (.int .i64 2) w42 rfl (r_assign rfl) ?_
  refine EL_nil ?_
  refine thn_n ?_
  refine EC_reg ?_
  refine EL_val v41 w42 rfl (r_move rfl) ?_
  refine EL_val (.int .i64 n) w42 rfl (r_move rfl) ?_
  refine EL_val (.int .i64 2) w42 rfl (r_move rfl) ?_
  refine EL_val (.int .i64 16) w42 rfl (r_asn (by kernel_rfl) (r_mul rfl rfl)) ?_
  refine EL_int (n / 65536) rfl (r_shri (n := 16) rfl rfl rfl (by decide) (by decide)) ?_
  intro x51 hx51
  refine EL_val (.int .u8 (x51 % 256)) w42 rfl (r_convb 3 5 rfl Try.underlying3 Try.underlying5) ?_
  refine EL_lit w42.heap.size #[.int .u8 (x51 % 256)] elB rfl (by decide) rfl (Nat.le_refl _) (by kernel_rfl) ?_
  intro v52 w53 O54 B55 k56 z57
  have G58 : w.grownBy w53 v0.ownBlock := kept_below G47 B55
  have B59 : Below h.heap.size h w53 := below_full B48 B48.size B55
  have B60 : Below w42.heap.size w42 w53 := B55
  have O54' := own_eq (l := [bof x51]) O54 (by simp [bof_val, byt])
  refine EL_append (v := v41) (xs := ((l ++ [bof x11]) ++ [bof x31]).map byt) (ys := [bof x51].map byt) h.heap.size elB rfl rfl rfl (by simpa using (own_below O43' B60)) (own_row O54') (byt_one _) (by first | (simp only [List.length_map, List.length_nil]; omega) | (simp; done) | (simp; omega)) (by decide) B59.size ?_
  intro v61 w62 O63 G64 A65
  have O63' := own_app O63
  have Q66 : ∀ g, v61.ownBlock = some g → w.heap.size ≤ g ∨ v0.ownBlock = some g := fun g hg => A65.elim (fun e => Q46 g (e.symm.trans hg)) (fun e => .inl (by have h1 := Option.some.inj (e.symm.trans hg); have h2 := G58.size; omega))
  have G67 : w.grownBy w62 v0.ownBlock := kept_other G58 G64 Q46
  have B68 : Below h.heap.size h w62 := below_grew B59 G64 (own_below O43' B60) (Nat.le_refl _) (B59.size)
  refine EL_val v61 w62 rfl (r_assign rfl) ?_
  refine EL_nil ?_
  refine inB_n ?_
  refine thn_n ?_
  refine EC_reg ?_
  refine EL_val (.int .i64 3) w62 rfl (r_asn (by kernel_rfl) (r_add rfl rfl)) ?_
  refine EL_val (.int .i64 3) w62 rfl (r_move rfl) ?_
  refine EL_nil ?_
  refine thn_n ?_
  refine U_step ?_
  refine EC_seq ?_
  refine EC_reg ?_
  refine EL_val (.bool true) w62 rfl (r_dec (by decide) (r_lss rfl rfl)) ?_
  refine EL_nil ?_
  refine thn_n ?_
  refine EC_seq ?_
  refine EC_cond_true rfl ?_
  refine EC_skip ?_
  refine thn_n ?_
  refine EC_seq ?_
  refine EC_block ?_
  refine EC_seq ?_
  refine EC_reg ?_
  refine EL_val (.int .i64 3) w62 rfl (r_move rfl) ?_
  refine EL_val (.int .i64 3) w62 rfl (r_assign rfl) ?_
  refine EL_nil ?_
  refine thn_n ?_
  refine EC_reg ?_
  refine EL_val v61 w62 rfl (r_move rfl) ?_
  refine EL_val (.int .i64 n) w62 rfl (r_move rfl) ?_
  refine EL_val (.int .i64 3) w62 rfl (r_move rfl) ?_
  refine EL_val (.int .i64 24) w62 rfl (r_asn (by kernel_rfl) (r_mul rfl rfl)) ?_
  refine EL_int (n / 16777216) rfl (r_shri (n := 24) rfl rfl rfl (by decide) (by decide)) ?_
  intro x71 hx71
  refine EL_val (.int .u8 (x71 % 256)) w62 rfl (r_convb 3 5 rfl Try.underlying3 Try.underlying5) ?_
  refine EL_lit w62.heap.size #[.int .u8 (x71 % 256)] elB rfl (by decide) rfl (Nat.le_refl _) (by kernel_rfl) ?_
  intro v72 w73 O74 B75 k76 z77
  have G78 : w.grownBy w73 v0.ownBlock := kept_below G67 B75
  have B79 : Below h.heap.size h w73 := below_full B68 B68.size B75
  have B80 : Below w62.heap.size w62 w73 := B75
  have O74' := own_eq (l := [bof x71]) O74 (by simp [bof_val, byt])
  refine EL_append (v := v61) (xs := (((l ++ [bof x11]) ++ [bof x31]) ++ [bof x51]).map byt) (ys := [bof x71].map byt) h.heap.size elB rfl rfl rfl (by simpa using (own_below O63' B80)) (own_row O74') (byt_one _) (by first | (simp only [List.length_map, List.length_nil]; omega) | (simp; done) | (simp; omega)) (by decide) B79.size ?_
  intro v81 w82 O83 G84 A85
  have O83' := own_app O83
  have Q86 : ∀ g, v81.ownBlock = some g → w.heap.size ≤ g ∨ v0.ownBlock = some g := fun g hg => A85.elim (fun e => Q66 g (e.symm.trans hg)) (fun e => .inl (by have h1 := Option.some.inj (e.symm.trans hg); have h2 := G78.size; omega))
  have G87 : w.grownBy w82 v0.ownBlock := kept_other G78 G84 Q66
  have B88 : Below h.heap.size h w82 := below_grew B79 G84 (own_below O63' B80) (Nat.le_refl _) (B79.size)
  refine EL_val v81 w82 rfl (r_assign rfl) ?_
  refine EL_nil ?_
  refine inB_n ?_
  refine thn_n ?_
  refine EC_reg ?_
  refine EL_val (.int .i64 4) w82 rfl (r_asn (by kernel_rfl) (r_add rfl rfl)) ?_
  refine EL_val (.int .i64 4) w82 rfl (r_move rfl) ?_
  refine EL_nil ?_
  refine thn_n ?_
  refine U_step ?_
  refine EC_seq ?_
  refine EC_reg ?_
  refine EL_val (.bool true) w82 rfl (r_dec (by decide) (r_lss rfl rfl)) ?_
  refine EL_nil ?_
  refine thn_n ?_
  refine EC_seq ?_
  refine EC_cond_true rfl ?_
  refine EC_skip ?_
  refine thn_n ?_
  refine EC_seq ?_
  refine EC_block ?_
  refine EC_seq ?_
  refine EC_reg ?_
  refine EL_val (.int .i64 4) w82 rfl (r_move rfl) ?_
  refine EL_val (.int .i64 4) w82 rfl (r_assign rfl) ?_
  refine EL_nil ?_
  refine thn_n ?_
  refine EC_reg ?_
  refine EL_val v81 w82 rfl (r_move rfl) ?_
  refine EL_val (.int .i64 n) w82 rfl (r_move rfl) ?_
  refine EL_val (.int .i64 4) w82 rfl (r_move rfl) ?_
  refine EL_val (.int .i64 32) w82 rfl (r_asn (by kernel_rfl) (r_mul rfl rfl)) ?_
  refine EL_int (n / 4294967296) rfl (r_shri (n := 32) rfl rfl rfl (by decide) (by decide)) ?_
  intro x91 hx91
  refine EL_val (.int .u8 (x91 % 256)) w82 rfl (r_convb 3 5 rfl Try.underlying3 Try.underlying5) ?_
  refine EL_lit w82.heap.size #[.int .u8 (x91 % 256)] elB rfl (by decide) rfl (Nat.le_refl _) (by kernel_rfl) ?_
  intro v92 w93 O94 B95 k96 z97
  have G98 : w.grownBy w93 v0.ownBlock := kept_below G87 B95
  have B99 : Below h.heap.size h w93 := below_full B88 B88.size B95
  have B100 : Below w82.heap.size w82 w93 := B95
  have O94' := own_eq (l := [bof x91]) O94 (by simp [bof_val, byt])
  refine EL_append (v := v81) (xs := ((((l ++ [bof x11]) ++ [bof x31]) ++ [bof x51]) ++ [bof x71]).map byt) (ys := [bof x91].map byt) h.heap.size elB rfl rfl rfl (by simpa using (own_below O83' B100)) (own_row O94') (byt_one _) (by first | (simp only [List.length_map, List.length_nil]; omega) | (simp; done) | (simp; omega)) (by decide) B99.size ?_
  intro v101 w102 O103 G104 A105
  have O103' := own_app O103
  have Q106 : ∀ g, v101.ownBlock = some g → w.heap.size ≤ g ∨ v0.ownBlock = some g := fun g hg => A105.elim (fun e => Q86 g (e.symm.trans hg)) (fun e => .inl (by have h1 := Option.some.inj (e.symm.trans hg); have h2 := G98.size; omega))
  have G107 : w.grownBy w102 v0.ownBlock := kept_other G98 G104 Q86
  have B108 : Below h.heap.size h w102 := below_grew B99 G104 (own_below O83' B100) (Nat.le_refl _) (B99.size)
  refine EL_val v101 w102 rfl (r_assign rfl) ?_
  refine EL_nil ?_
  refine inB_n ?_
  refine thn_n ?_
  refine EC_reg ?_
  refine EL_val (.int .i64 5) w102 rfl (r_asn (by kernel_rfl) (r_add rfl rfl)) ?_
  refine EL_val (.int .i64 5) w102 rfl (r_move rfl) ?_
  refine EL_nil ?_
  refine thn_n ?_
  refine U_step ?_
  refine EC_seq ?_
  refine EC_reg ?_
  refine EL_val (.bool true) w102 rfl (r_dec (by decide) (r_lss rfl rfl)) ?_
  refine EL_nil ?_
  refine thn_n ?_
  refine EC_seq ?_
  refine EC_cond_true rfl ?_
  refine EC_skip ?_
  refine thn_n ?_
  refine EC_seq ?_
  refine EC_block ?_
  refine EC_seq ?_
  refine EC_reg ?_
  refine EL_val (.int .i64 5) w102 rfl (r_move rfl) ?_
  refine EL_val (.int .i64 5) w102 rfl (r_assign rfl) ?_
  refine EL_nil ?_
  refine thn_n ?_
  refine EC_reg ?_
  refine EL_val v101 w102 rfl (r_move rfl) ?_
  refine EL_val (.int .i64 n) w102 rfl (r_move rfl) ?_
  refine EL_val (.int .i64 5) w102 rfl (r_move rfl) ?_
  refine EL_val (.int .i64 40) w102 rfl (r_asn (by kernel_rfl) (r_mul rfl rfl)) ?_
  refine EL_int (n / 1099511627776) rfl (r_shri (n := 40) rfl rfl rfl (by decide) (by decide)) ?_
  intro x111 hx111
  refine EL_val (.int .u8 (x111 % 256)) w102 rfl (r_convb 3 5 rfl Try.underlying3 Try.underlying5) ?_
  refine EL_lit w102.heap.size #[.int .u8 (x111 % 256)] elB rfl (by decide) rfl (Nat.le_refl _) (by kernel_rfl) ?_
  intro v112 w113 O114 B115 k116 z117
  have G118 : w.grownBy w113 v0.ownBlock := kept_below G107 B115
  have B119 : Below h.heap.size h w113 := below_full B108 B108.size B115
  have B120 : Below w102.heap.size w102 w113 := B115
  have O114' := own_eq (l := [bof x111]) O114 (by simp [bof_val, byt])
  refine EL_append (v := v101) (xs := (((((l ++ [bof x11]) ++ [bof x31]) ++ [bof x51]) ++ [bof x71]) ++ [bof x91]).map byt) (ys := [bof x111].map byt) h.heap.size elB rfl rfl rfl (by simpa using (own_below O103' B120)) (own_row O114') (byt_one _) (by first | (simp only [List.length_map, List.length_nil]; omega) | (simp; done) | (simp; omega)) (by decide) B119.size ?_
  intro v121 w122 O123 G124 A125
  have O123' := own_app O123
  have Q126 : ∀ g, v121.ownBlock = some g → w.heap.size ≤ g ∨ v0.ownBlock = some g := fun g hg => A125.elim (fun e => Q106 g (e.symm.trans hg)) (fun e => .inl (by have h1 := Option.some.inj (e.symm.trans hg); have h2 := G118.size; omega))
  have G127 : w.grownBy w122 v0.ownBlock := kept_other G118 G124 Q106
  have B128 : Below h.heap.size h w122 := below_grew B119 G124 (own_below O103' B120) (Nat.le_refl _) (B119.size)
  refine EL_val v121 w122 rfl (r_assign rfl) ?_
  refine EL_nil ?_
  refine inB_n ?_
  refine thn_n ?_
  refine EC_reg ?_
  refine EL_val (.int .i64 6) w122 rfl (r_asn (by kernel_rfl) (r_add rfl rfl)) ?_
  refine EL_val (.int .i64 6) w122 rfl (r_move rfl) ?_
  refine EL_nil ?_
  refine thn_n ?_
  refine U_step ?_
  refine EC_seq ?_
  refine EC_reg ?_
  refine EL_val (.bool true) w122 rfl (r_dec (by decide) (r_lss rfl rfl)) ?_
  refine EL_nil ?_
  refine thn_n ?_
  refine EC_seq ?_
  refine EC_cond_true rfl ?_
  refine EC_skip ?_
  refine thn_n ?_
  refine EC_seq ?_
  refine EC_block ?_
  refine EC_seq ?_
  refine EC_reg ?_
  refine EL_val (.int .i64 6) w122 rfl (r_move rfl) ?_
  refine EL_val (.int .i64 6) w122 rfl (r_assign rfl) ?_
  refine EL_nil ?_
  refine thn_n ?_
  refine EC_reg ?_
  refine EL_val v121 w122 rfl (r_move rfl) ?_
  refine EL_val (.int .i64 n) w122 rfl (r_move rfl) ?_
  refine EL_val (.int .i64 6) w122 rfl (r_move rfl) ?_
  refine EL_val (.int .i64 48) w122 rfl (r_asn (by kernel_rfl) (r_mul rfl rfl)) ?_
  refine EL_int (n / 281474976710656) rfl (r_shri (n := 48) rfl rfl rfl (by decide) (by decide)) ?_
  intro x131 hx131
  refine EL_val (.int .u8 (x131 % 256)) w122 rfl (r_convb 3 5 rfl Try.underlying3 Try.underlying5) ?_
  refine EL_lit w122.heap.size #[.int .u8 (x131 % 256)] elB rfl (by decide) rfl (Nat.le_refl _) (by kernel_rfl) ?_
  intro v132 w133 O134 B135 k136 z137
  have G138 : w.grownBy w133 v0.ownBlock := kept_below G127 B135
  have B139 : Below h.heap.size h w133 := below_full B128 B128.size B135
  have B140 : Below w122.heap.size w122 w133 := B135
  have O134' := own_eq (l := [bof x131]) O134 (by simp [bof_val, byt])
  refine EL_append (v := v121) (xs := ((((((l ++ [bof x11]) ++ [bof x31]) ++ [bof x51]) ++ [bof x71]) ++ [bof x91]) ++ [bof x111]).map byt) (ys := [bof x131].map byt) h.heap.size elB rfl rfl rfl (by simpa using (own_below O123' B140)) (own_row O134') (byt_one _) (by first | (simp only [List.length_map, List.length_nil]; omega) | (simp; done) | (simp; omega)) (by decide) B139.size ?_
  intro v141 w142 O143 G144 A145
  have O143' := own_app O143
  have Q146 : ∀ g, v141.ownBlock = some g → w.heap.size ≤ g ∨ v0.ownBlock = some g := fun g hg => A145.elim (fun e => Q126 g (e.symm.trans hg)) (fun e => .inl (by have h1 := Option.some.inj (e.symm.trans hg); have h2 := G138.size; omega))
  have G147 : w.grownBy w142 v0.ownBlock := kept_other G138 G144 Q126
  have B148 : Below h.heap.size h w142 := below_grew B139 G144 (own_below O123' B140) (Nat.le_refl _) (B139.size)
  refine EL_val v141 w142 rfl (r_assign rfl) ?_
  refine EL_nil ?_
  refine inB_n ?_
  refine thn_n ?_
  refine EC_reg ?_
  refine EL_val (.int .i64 7) w142 rfl (r_asn (by kernel_rfl) (r_add rfl rfl)) ?_
  refine EL_val (.int .i64 7) w142 rfl (r_move rfl) ?_
  refine EL_nil ?_
  refine thn_n ?_
  refine U_step ?_
  refine EC_seq ?_
  refine EC_reg ?_
  refine EL_val (.bool true) w142 rfl (r_dec (by decide) (r_lss rfl rfl)) ?_
  refine EL_nil ?_
  refine thn_n ?_
  refine EC_seq ?_
  refine EC_cond_true rfl ?_
  refine EC_skip ?_
  refine thn_n ?_
  refine EC_seq ?_
  refine EC_block ?_
  refine EC_seq ?_
  refine EC_reg ?_
  refine EL_val (.int .i64 7) w142 rfl (r_move rfl) ?_
  refine EL_val (.int .i64 7) w142 rfl (r_assign rfl) ?_
  refine EL_nil ?_
  refine thn_n ?_
  refine EC_reg ?_
  refine EL_val v141 w142 rfl (r_move rfl) ?_
  refine EL_val (.int .i64 n) w142 rfl (r_move rfl) ?_
  refine EL_val (.int .i64 7) w142 rfl (r_move rfl) ?_
  refine EL_val (.int .i64 56) w142 rfl (r_asn (by kernel_rfl) (r_mul rfl rfl)) ?_
  refine EL_int (n / 72057594037927936) rfl (r_shri (n := 56) rfl rfl rfl (by decide) (by decide)) ?_
  intro x151 hx151
  refine EL_val (.int .u8 (x151 % 256)) w142 rfl (r_convb 3 5 rfl Try.underlying3 Try.underlying5) ?_
  refine EL_lit w142.heap.size #[.int .u8 (x151 % 256)] elB rfl (by decide) rfl (Nat.le_refl _) (by kernel_rfl) ?_
  intro v152 w153 O154 B155 k156 z157
  have G158 : w.grownBy w153 v0.ownBlock := kept_below G147 B155
  have B159 : Below h.heap.size h w153 := below_full B148 B148.size B155
  have B160 : Below w142.heap.size w142 w153 := B155
  have O154' := own_eq (l := [bof x151]) O154 (by simp [bof_val, byt])
  refine EL_append (v := v141) (xs := (((((((l ++ [bof x11]) ++ [bof x31]) ++ [bof x51]) ++ [bof x71]) ++ [bof x91]) ++ [bof x111]) ++ [bof x131]).map byt) (ys := [bof x151].map byt) h.heap.size elB rfl rfl rfl (by simpa using (own_below O143' B160)) (own_row O154') (byt_one _) (by first | (simp only [List.length_map, List.length_nil]; omega) | (simp; done) | (simp; omega)) (by decide) B159.size ?_
  intro v161 w162 O163 G164 A165
  have O163' := own_app O163
  have Q166 : ∀ g, v161.ownBlock = some g → w.heap.size ≤ g ∨ v0.ownBlock = some g := fun g hg => A165.elim (fun e => Q146 g (e.symm.trans hg)) (fun e => .inl (by have h1 := Option.some.inj (e.symm.trans hg); have h2 := G158.size; omega))
  have G167 : w.grownBy w162 v0.ownBlock := kept_other G158 G164 Q146
  have B168 : Below h.heap.size h w162 := below_grew B159 G164 (own_below O143' B160) (Nat.le_refl _) (B159.size)
  refine EL_val v161 w162 rfl (r_assign rfl) ?_
  refine EL_nil ?_
  refine inB_n ?_
  refine thn_n ?_
  refine EC_reg ?_
  refine EL_val (.int .i64 8) w162 rfl (r_asn (by kernel_rfl) (r_add rfl rfl)) ?_
  refine EL_val (.int .i64 8) w162 rfl (r_move rfl) ?_
  refine EL_nil ?_
  refine thn_n ?_
  refine U_step ?_
  refine EC_seq ?_
  refine EC_reg ?_
  refine EL_val (.bool false) w162 rfl (r_dec (by decide) (r_lss rfl rfl)) ?_
  refine EL_nil ?_
  refine thn_n ?_
  refine EC_seq ?_
  refine EC_cond_false rfl ?_
  refine EC_exit ?_
  refine thn_x ?_
  refine thn_x ?_
  refine inB_hit ?_
  refine thn_n ?_
  refine EC_seq ?_
  refine EC_reg ?_
  refine EL_val v161 w162 rfl (r_move rfl) ?_
  refine EL_val v161 w162 rfl (r_assign rfl) ?_
  refine EL_nil ?_
  refine thn_n ?_
  refine EC_ret ?_
  refine fin1 Try.results29 (show _ = v161 from rfl) ⟨_, rfl, ?_⟩
  have ef : (((((((l ++ [bof x11]) ++ [bof x31]) ++ [bof x51]) ++ [bof x71]) ++ [bof x91]) ++ [bof x111]) ++ [bof x131]) ++ [bof x151] = l ++ e8 n := by simp only [e8, hx11, hx31, hx51, hx71, hx91, hx111, hx131, hx151, List.append_assoc, List.cons_append, List.nil_append, Int.ediv_one]
  exact ⟨own_as O163' ef, G167, B168, Q166⟩

set_option maxRecDepth 100000 in
set_option maxHeartbeats 4000000 in
theorem fill_c (v0 : Value) (b : List UInt8) (w : World) (H0 : Bs w v0 b) (hb : b.length ≤ 1000000) : Ret Try.prog 31 [v0] w fun v w' => w'.ownsRow w.heap.size 5 1 v (fil b).length ((fil b).map byt) ∧ Below w.heap.size w w' := by
  refine ret_E Try.func31 rfl Try.ntmps31 (by simp) ?_
  refine EC_seq ?_
  refine EC_reg ?_
  refine EL_val (.slice none 0 0) w rfl (r_assign rfl) ?_
  refine EL_nil ?_
  refine thn_n ?_
  refine EC_seq ?_
  refine EC_reg ?_
  refine EL_lit w.heap.size #[] elB rfl (by decide) rfl (Nat.le_refl _) (by kernel_rfl) ?_
  intro v11 w12 O13 B14 k15 z16
  have B17 : Below w.heap.size w w12 := B14
  have O13' := own_eq (l := ([] : List UInt8)) O13 (by simp [bof_val, byt])
  refine EL_val v0 w12 rfl (r_move rfl) ?_
  refine EL_append (v := v11) (xs := ([] : List UInt8).map byt) (ys := b.map byt) w.heap.size elB rfl rfl rfl (by simpa using O13') (H0.below B17) (byt_one _) (by first | (simp only [List.length_map, List.length_nil]; omega) | (simp; done) | (simp; omega)) (by decide) B17.size ?_
  intro v18 w19 O20 G21 A22
  have O20' := own_app O20
  have B23 : Below w.heap.size w w19 := below_grew B17 G21 O13' (Nat.le_refl _) (B17.size)
  refine EL_val v18 w19 rfl (r_assign rfl) ?_
  refine EL_nil ?_
  refine thn_n ?_
  refine EC_seq ?_
  refine EC_block ?_
  refine EC_loop (fun m' E' w' => ∃ ov : Value, ∃ j : Nat, m' = padn b.length - j ∧ E' 3 = ov ∧ E' 2 = .slice none 0 0 ∧ (j ≤ padn b.length) ∧ Below w.heap.size w w' ∧ w'.ownsRow w.heap.size 5 1 ov (b ++ List.replicate j (0 : UInt8)).length ((b ++ List.replicate j (0 : UInt8)).map byt)) _ ⟨v18, 0, rfl, rfl, rfl, Nat.zero_le _, B23, own_as O20' (by simp)⟩ ?_
  rintro _ E25 w26 ⟨ov, j, rfl, e27, e28, hj, B29, O30⟩
  refine EC_seq ?_
  refine EC_seq ?_
  refine EC_reg ?_
  refine EL_val ov w26 rfl (r_move (by exact e27)) ?_
  refine EL_val (.int .i64 ((b ++ List.replicate j (0 : UInt8)).length : Int)) w26 rfl (lenB (r_len rfl (own_row O30) Try.underlying22)) ?_
  have hbl : (b ++ List.replicate j (0 : UInt8)).length = b.length + j := by simp
  have hpl := padn_lt b.length
  refine EL_int (((b ++ List.replicate j (0 : UInt8)).length : Int) % 16) rfl (r_remi rfl rfl (by omega) (by omega)) ?_
  intro x31 hx31
  refine EL_val (.bool (decide (0 < x31))) w26 rfl (r_gtr rfl rfl) ?_
  refine EL_nil ?_
  refine thn_n ?_
  refine EC_if (p := 0 < x31) rfl (fun h32 => ?_) (fun h32 => ?_)
  · have hj2 : j + 1 ≤ padn b.length := by unfold padn at *; omega
    refine EC_skip ?_
    refine thn_n ?_
    refine EC_block ?_
    refine EC_reg ?_
    refine EL_val ov w26 rfl (r_move (by exact e27)) ?_
    refine EL_lit w26.heap.size #[.int .u8 0] elB rfl (by decide) rfl (Nat.le_refl _) (by kernel_rfl) ?_
    intro v33 w34 O35 B36 k37 z38
    have B39 : Below w.heap.size w w34 := below_full B29 B29.size B36
    have B40 : Below w26.heap.size w26 w34 := B36
    have O35' := own_eq (l := [(0 : UInt8)]) O35 (by simp [bof_val, byt])
    refine EL_append (v := ov) (xs := (b ++ List.replicate j (0 : UInt8)).map byt) (ys := [(0 : UInt8)].map byt) w.heap.size elB rfl rfl rfl (by simpa using (own_below O30 B40)) (own_row O35') (byt_one _) (by first | (simp only [List.length_map, List.length_nil]; omega) | (simp; done) | (simp; omega)) (by decide) B39.size ?_
    intro v41 w42 O43 G44 A45
    have O43' := own_app O43
    have B46 : Below w.heap.size w w42 := below_grew B39 G44 (own_below O30 B40) (Nat.le_refl _) (B39.size)
    refine EL_val v41 w42 rfl (r_assign rfl) ?_
    refine EL_nil ?_
    refine inB_n ?_
    refine thn_n ?_
    refine ⟨_, ?_, v41, j + 1, rfl, rfl, (by exact e28), hj2, B46, own_as O43' (by rw [List.append_assoc, List.replicate_succ'])⟩
    first | omega | (simp; omega)
  · refine EC_exit ?_
    refine thn_x ?_
    refine thn_x ?_
    refine inB_hit ?_
    refine thn_n ?_
    refine EC_seq ?_
    refine EC_reg ?_
    refine EL_val ov w26 rfl (r_move (by exact e27)) ?_
    refine EL_val ov w26 rfl (r_assign rfl) ?_
    refine EL_nil ?_
    refine thn_n ?_
    refine EC_ret ?_
    refine fin1 Try.results31 (show _ = ov from rfl) ⟨_, rfl, ?_⟩
    have ef : b ++ List.replicate j (0 : UInt8) = fil b := fil_of hj (by omega)
    exact ⟨own_as O30 ef, B29⟩

set_option maxRecDepth 100000 in
set_option maxHeartbeats 4000000 in
theorem eight_c (n : Int) (w : World) (hn : 0 ≤ n ∧ n ≤ 9223372036854775807) : Ret Try.prog 32 [.int .i64 n] w fun v w' => w'.ownsRow w.heap.size 5 1 v (e8 n).length ((e8 n).map byt) ∧ Below w.heap.size w w' := by
  refine ret_E Try.func32 rfl Try.ntmps32 (by simp) ?_
  refine EC_seq ?_
  refine EC_reg ?_
  refine EL_val (.slice none 0 0) w rfl (r_assign rfl) ?_
  refine EL_nil ?_
  refine thn_n ?_
  refine EC_seq ?_
  refine EC_reg ?_
  refine EL_val (.slice none 0 0) w rfl (r_assign rfl) ?_
  refine EL_nil ?_
  refine thn_n ?_
  refine EC_seq ?_
  refine EC_seq ?_
  refine EC_reg ?_
  refine EL_val (.int .i64 0) w rfl (r_assign rfl) ?_
  refine EL_nil ?_
  refine thn_n ?_
  refine EC_block ?_
  refine EC_for 9 ?_
  refine U_step ?_
  refine EC_seq ?_
  refine EC_seq ?_
  refine EC_reg ?_
  refine EL_val (.int .i64 0) w rfl (r_move rfl) ?_
  refine EL_val (.bool true) w rfl (r_dec (by decide) (r_lss rfl rfl)) ?_
  refine EL_nil ?_
  refine thn_n ?_
  refine EC_cond_true rfl ?_
  refine EC_skip ?_
  refine thn_n ?_
  refine EC_seq ?_
  refine EC_block ?_
  refine EC_seq ?_
  refine EC_reg ?_
  refine EL_val (.slice none 0 0) w rfl (r_move rfl) ?_
  refine EL_val (.int .i64 n) w rfl (r_move rfl) ?_
  refine EL_int (n % 256) rfl (r_remi rfl rfl (by omega) (by omega)) ?_
  intro x11 hx11
  refine EL_val (.int .u8 (x11 % 256)) w rfl (r_convb 3 5 rfl Try.underlying3 Try.underlying5) ?_
  refine EL_lit w.heap.size #[.int .u8 (x11 % 256)] elB rfl (by decide) rfl (Nat.le_refl _) (by kernel_rfl) ?_
  intro v12 w13 O14 B15 k16 z17
  have B18 : Below w.heap.size w w13 := B15
  have O14' := own_eq (l := [bof x11]) O14 (by simp [bof_val, byt])
  refine EL_append (v := .slice none 0 0) (xs := ([] : List UInt8).map byt) (ys := [bof x11].map byt) w13.heap.size elB rfl rfl rfl (by simpa using (World.ownsRow_nil _ _ _ _)) (own_row O14') (byt_one _) (by first | (simp only [List.length_map, List.length_nil]; omega) | (simp; done) | (simp; omega)) (by decide) (Nat.le_refl _) ?_
  intro v19 w20 O21 G22 A23
  have O21' := own_app0 O21
  have B24 : Below w13.heap.size w13 w20 := ⟨G22.os, G22.tape, G22.output, G22.size, fun k hk => G22.block k hk (by simp [Value.ownBlock])⟩
  have B25 : Below w.heap.size w w20 := below_full B18 B18.size B24
  have B26 : Below w13.heap.size w13 w20 := B24
  refine EL_val v19 w20 rfl (r_assign rfl) ?_
  refine EL_nil ?_
  refine thn_n ?_
  refine EC_reg ?_
  refine EL_val (.int .i64 n) w20 rfl (r_move rfl) ?_
  refine EL_int (n / 256) rfl (r_quoi rfl rfl (by omega) (by omega)) ?_
  intro x27 hx27
  refine EL_val (.int .i64 x27) w20 rfl (r_assign rfl) ?_
  refine EL_nil ?_
  refine inB_n ?_
  refine thn_n ?_
  refine EC_reg ?_
  refine EL_val (.int .i64 0) w20 rfl (r_move rfl) ?_
  refine EL_val (.int .i64 1) w20 rfl (r_asn (by kernel_rfl) (r_add rfl rfl)) ?_
  refine EL_val (.int .i64 1) w20 rfl (r_assign rfl) ?_
  refine EL_nil ?_
  refine thn_n ?_
  refine U_step ?_
  refine EC_seq ?_
  refine EC_seq ?_
  refine EC_reg ?_
  refine EL_val (.int .i64 1) w20 rfl (r_move rfl) ?_
  refine EL_val (.bool true) w20 rfl (r_dec (by decide) (r_lss rfl rfl)) ?_
  refine EL_nil ?_
  refine thn_n ?_
  refine EC_cond_true rfl ?_
  refine EC_skip ?_
  refine thn_n ?_
  refine EC_seq ?_
  refine EC_block ?_
  refine EC_seq ?_
  refine EC_reg ?_
  refine EL_val v19 w20 rfl (r_move rfl) ?_
  refine EL_val (.int .i64 x27) w20 rfl (r_move rfl) ?_
  refine EL_int (x27 % 256) rfl (r_remi rfl rfl (by omega) (by omega)) ?_
  intro x28 hx28
  refine EL_val (.int .u8 (x28 % 256)) w20 rfl (r_convb 3 5 rfl Try.underlying3 Try.underlying5) ?_
  refine EL_lit w20.heap.size #[.int .u8 (x28 % 256)] elB rfl (by decide) rfl (Nat.le_refl _) (by kernel_rfl) ?_
  intro v29 w30 O31 B32 k33 z34
  have B35 : Below w.heap.size w w30 := below_full B25 B25.size B32
  have B36 : Below w13.heap.size w13 w30 := below_full B26 B26.size B32
  have B37 : Below w20.heap.size w20 w30 := B32
  have O31' := own_eq (l := [bof x28]) O31 (by simp [bof_val, byt])
  refine EL_append (v := v19) (xs := [bof x11].map byt) (ys := [bof x28].map byt) w13.heap.size elB rfl rfl rfl (by simpa using (own_below O21' B37)) (own_row O31') (byt_one _) (by first | (simp only [List.length_map, List.length_nil]; omega) | (simp; done) | (simp; omega)) (by decide) B36.size ?_
  intro v38 w39 O40 G41 A42
  have O40' := own_app O40
  have B43 : Below w.heap.size w w39 := below_grew B35 G41 (own_below O21' B37) B18.size (B35.size)
  have B44 : Below w13.heap.size w13 w39 := below_grew B36 G41 (own_below O21' B37) (Nat.le_refl _) (B36.size)
  refine EL_val v38 w39 rfl (r_assign rfl) ?_
  refine EL_nil ?_
  refine thn_n ?_
  refine EC_reg ?_
  refine EL_val (.int .i64 x27) w39 rfl (r_move rfl) ?_
  refine EL_int (x27 / 256) rfl (r_quoi rfl rfl (by omega) (by omega)) ?_
  intro x47 hx47
  refine EL_val (.int .i64 x47) w39 rfl (r_assign rfl) ?_
  refine EL_nil ?_
  refine inB_n ?_
  refine thn_n ?_
  refine EC_reg ?_
  refine EL_val (.int .i64 1) w39 rfl (r_move rfl) ?_
  refine EL_val (.int .i64 2) w39 rfl (r_asn (by kernel_rfl) (r_add rfl rfl)) ?_
  refine EL_val (.int .i64 2) w39 rfl (r_assign rfl) ?_
  refine EL_nil ?_
  refine thn_n ?_
  refine U_step ?_
  refine EC_seq ?_
  refine EC_seq ?_
  refine EC_reg ?_
  refine EL_val (.int .i64 2) w39 rfl (r_move rfl) ?_
  refine EL_val (.bool true) w39 rfl (r_dec (by decide) (r_lss rfl rfl)) ?_
  refine EL_nil ?_
  refine thn_n ?_
  refine EC_cond_true rfl ?_
  refine EC_skip ?_
  refine thn_n ?_
  refine EC_seq ?_
  refine EC_block ?_
  refine EC_seq ?_
  refine EC_reg ?_
  refine EL_val v38 w39 rfl (r_move rfl) ?_
  refine EL_val (.int .i64 x47) w39 rfl (r_move rfl) ?_
  refine EL_int (x47 % 256) rfl (r_remi rfl rfl (by omega) (by omega)) ?_
  intro x48 hx48
  refine EL_val (.int .u8 (x48 % 256)) w39 rfl (r_convb 3 5 rfl Try.underlying3 Try.underlying5) ?_
  refine EL_lit w39.heap.size #[.int .u8 (x48 % 256)] elB rfl (by decide) rfl (Nat.le_refl _) (by kernel_rfl) ?_
  intro v49 w50 O51 B52 k53 z54
  have B55 : Below w.heap.size w w50 := below_full B43 B43.size B52
  have B56 : Below w13.heap.size w13 w50 := below_full B44 B44.size B52
  have B57 : Below w39.heap.size w39 w50 := B52
  have O51' := own_eq (l := [bof x48]) O51 (by simp [bof_val, byt])
  refine EL_append (v := v38) (xs := ([bof x11] ++ [bof x28]).map byt) (ys := [bof x48].map byt) w13.heap.size elB rfl rfl rfl (by simpa using (own_below O40' B57)) (own_row O51') (byt_one _) (by first | (simp only [List.length_map, List.length_nil]; omega) | (simp; done) | (simp; omega)) (by decide) B56.size ?_
  intro v58 w59 O60 G61 A62
  have O60' := own_app O60
  have B63 : Below w.heap.size w w59 := below_grew B55 G61 (own_below O40' B57) B18.size (B55.size)
  have B64 : Below w13.heap.size w13 w59 := below_grew B56 G61 (own_below O40' B57) (Nat.le_refl _) (B56.size)
  refine EL_val v58 w59 rfl (r_assign rfl) ?_
  refine EL_nil ?_
  refine thn_n ?_
  refine EC_reg ?_
  refine EL_val (.int .i64 x47) w59 rfl (r_move rfl) ?_
  refine EL_int (x47 / 256) rfl (r_quoi rfl rfl (by omega) (by omega)) ?_
  intro x67 hx67
  refine EL_val (.int .i64 x67) w59 rfl (r_assign rfl) ?_
  refine EL_nil ?_
  refine inB_n ?_
  refine thn_n ?_
  refine EC_reg ?_
  refine EL_val (.int .i64 2) w59 rfl (r_move rfl) ?_
  refine EL_val (.int .i64 3) w59 rfl (r_asn (by kernel_rfl) (r_add rfl rfl)) ?_
  refine EL_val (.int .i64 3) w59 rfl (r_assign rfl) ?_
  refine EL_nil ?_
  refine thn_n ?_
  refine U_step ?_
  refine EC_seq ?_
  refine EC_seq ?_
  refine EC_reg ?_
  refine EL_val (.int .i64 3) w59 rfl (r_move rfl) ?_
  refine EL_val (.bool true) w59 rfl (r_dec (by decide) (r_lss rfl rfl)) ?_
  refine EL_nil ?_
  refine thn_n ?_
  refine EC_cond_true rfl ?_
  refine EC_skip ?_
  refine thn_n ?_
  refine EC_seq ?_
  refine EC_block ?_
  refine EC_seq ?_
  refine EC_reg ?_
  refine EL_val v58 w59 rfl (r_move rfl) ?_
  refine EL_val (.int .i64 x67) w59 rfl (r_move rfl) ?_
  refine EL_int (x67 % 256) rfl (r_remi rfl rfl (by omega) (by omega)) ?_
  intro x68 hx68
  refine EL_val (.int .u8 (x68 % 256)) w59 rfl (r_convb 3 5 rfl Try.underlying3 Try.underlying5) ?_
  refine EL_lit w59.heap.size #[.int .u8 (x68 % 256)] elB rfl (by decide) rfl (Nat.le_refl _) (by kernel_rfl) ?_
  intro v69 w70 O71 B72 k73 z74
  have B75 : Below w.heap.size w w70 := below_full B63 B63.size B72
  have B76 : Below w13.heap.size w13 w70 := below_full B64 B64.size B72
  have B77 : Below w59.heap.size w59 w70 := B72
  have O71' := own_eq (l := [bof x68]) O71 (by simp [bof_val, byt])
  refine EL_append (v := v58) (xs := (([bof x11] ++ [bof x28]) ++ [bof x48]).map byt) (ys := [bof x68].map byt) w13.heap.size elB rfl rfl rfl (by simpa using (own_below O60' B77)) (own_row O71') (byt_one _) (by first | (simp only [List.length_map, List.length_nil]; omega) | (simp; done) | (simp; omega)) (by decide) B76.size ?_
  intro v78 w79 O80 G81 A82
  have O80' := own_app O80
  have B83 : Below w.heap.size w w79 := below_grew B75 G81 (own_below O60' B77) B18.size (B75.size)
  have B84 : Below w13.heap.size w13 w79 := below_grew B76 G81 (own_below O60' B77) (Nat.le_refl _) (B76.size)
  refine EL_val v78 w79 rfl (r_assign rfl) ?_
  refine EL_nil ?_
  refine thn_n ?_
  refine EC_reg ?_
  refine EL_val (.int .i64 x67) w79 rfl (r_move rfl) ?_
  refine EL_int (x67 / 256) rfl (r_quoi rfl rfl (by omega) (by omega)) ?_
  intro x87 hx87
  refine EL_val (.int .i64 x87) w79 rfl (r_assign rfl) ?_
  refine EL_nil ?_
  refine inB_n ?_
  refine thn_n ?_
  refine EC_reg ?_
  refine EL_val (.int .i64 3) w79 rfl (r_move rfl) ?_
  refine EL_val (.int .i64 4) w79 rfl (r_asn (by kernel_rfl) (r_add rfl rfl)) ?_
  refine EL_val (.int .i64 4) w79 rfl (r_assign rfl) ?_
  refine EL_nil ?_
  refine thn_n ?_
  refine U_step ?_
  refine EC_seq ?_
  refine EC_seq ?_
  refine EC_reg ?_
  refine EL_val (.int .i64 4) w79 rfl (r_move rfl) ?_
  refine EL_val (.bool true) w79 rfl (r_dec (by decide) (r_lss rfl rfl)) ?_
  refine EL_nil ?_
  refine thn_n ?_
  refine EC_cond_true rfl ?_
  refine EC_skip ?_
  refine thn_n ?_
  refine EC_seq ?_
  refine EC_block ?_
  refine EC_seq ?_
  refine EC_reg ?_
  refine EL_val v78 w79 rfl (r_move rfl) ?_
  refine EL_val (.int .i64 x87) w79 rfl (r_move rfl) ?_
  refine EL_int (x87 % 256) rfl (r_remi rfl rfl (by omega) (by omega)) ?_
  intro x88 hx88
  refine EL_val (.int .u8 (x88 % 256)) w79 rfl (r_convb 3 5 rfl Try.underlying3 Try.underlying5) ?_
  refine EL_lit w79.heap.size #[.int .u8 (x88 % 256)] elB rfl (by decide) rfl (Nat.le_refl _) (by kernel_rfl) ?_
  intro v89 w90 O91 B92 k93 z94
  have B95 : Below w.heap.size w w90 := below_full B83 B83.size B92
  have B96 : Below w13.heap.size w13 w90 := below_full B84 B84.size B92
  have B97 : Below w79.heap.size w79 w90 := B92
  have O91' := own_eq (l := [bof x88]) O91 (by simp [bof_val, byt])
  refine EL_append (v := v78) (xs := ((([bof x11] ++ [bof x28]) ++ [bof x48]) ++ [bof x68]).map byt) (ys := [bof x88].map byt) w13.heap.size elB rfl rfl rfl (by simpa using (own_below O80' B97)) (own_row O91') (byt_one _) (by first | (simp only [List.length_map, List.length_nil]; omega) | (simp; done) | (simp; omega)) (by decide) B96.size ?_
  intro v98 w99 O100 G101 A102
  have O100' := own_app O100
  have B103 : Below w.heap.size w w99 := below_grew B95 G101 (own_below O80' B97) B18.size (B95.size)
  have B104 : Below w13.heap.size w13 w99 := below_grew B96 G101 (own_below O80' B97) (Nat.le_refl _) (B96.size)
  refine EL_val v98 w99 rfl (r_assign rfl) ?_
  refine EL_nil ?_
  refine thn_n ?_
  refine EC_reg ?_
  refine EL_val (.int .i64 x87) w99 rfl (r_move rfl) ?_
  refine EL_int (x87 / 256) rfl (r_quoi rfl rfl (by omega) (by omega)) ?_
  intro x107 hx107
  refine EL_val (.int .i64 x107) w99 rfl (r_assign rfl) ?_
  refine EL_nil ?_
  refine inB_n ?_
  refine thn_n ?_
  refine EC_reg ?_
  refine EL_val (.int .i64 4) w99 rfl (r_move rfl) ?_
  refine EL_val (.int .i64 5) w99 rfl (r_asn (by kernel_rfl) (r_add rfl rfl)) ?_
  refine EL_val (.int .i64 5) w99 rfl (r_assign rfl) ?_
  refine EL_nil ?_
  refine thn_n ?_
  refine U_step ?_
  refine EC_seq ?_
  refine EC_seq ?_
  refine EC_reg ?_
  refine EL_val (.int .i64 5) w99 rfl (r_move rfl) ?_
  refine EL_val (.bool true) w99 rfl (r_dec (by decide) (r_lss rfl rfl)) ?_
  refine EL_nil ?_
  refine thn_n ?_
  refine EC_cond_true rfl ?_
  refine EC_skip ?_
  refine thn_n ?_
  refine EC_seq ?_
  refine EC_block ?_
  refine EC_seq ?_
  refine EC_reg ?_
  refine EL_val v98 w99 rfl (r_move rfl) ?_
  refine EL_val (.int .i64 x107) w99 rfl (r_move rfl) ?_
  refine EL_int (x107 % 256) rfl (r_remi rfl rfl (by omega) (by omega)) ?_
  intro x108 hx108
  refine EL_val (.int .u8 (x108 % 256)) w99 rfl (r_convb 3 5 rfl Try.underlying3 Try.underlying5) ?_
  refine EL_lit w99.heap.size #[.int .u8 (x108 % 256)] elB rfl (by decide) rfl (Nat.le_refl _) (by kernel_rfl) ?_
  intro v109 w110 O111 B112 k113 z114
  have B115 : Below w.heap.size w w110 := below_full B103 B103.size B112
  have B116 : Below w13.heap.size w13 w110 := below_full B104 B104.size B112
  have B117 : Below w99.heap.size w99 w110 := B112
  have O111' := own_eq (l := [bof x108]) O111 (by simp [bof_val, byt])
  refine EL_append (v := v98) (xs := (((([bof x11] ++ [bof x28]) ++ [bof x48]) ++ [bof x68]) ++ [bof x88]).map byt) (ys := [bof x108].map byt) w13.heap.size elB rfl rfl rfl (by simpa using (own_below O100' B117)) (own_row O111') (byt_one _) (by first | (simp only [List.length_map, List.length_nil]; omega) | (simp; done) | (simp; omega)) (by decide) B116.size ?_
  intro v118 w119 O120 G121 A122
  have O120' := own_app O120
  have B123 : Below w.heap.size w w119 := below_grew B115 G121 (own_below O100' B117) B18.size (B115.size)
  have B124 : Below w13.heap.size w13 w119 := below_grew B116 G121 (own_below O100' B117) (Nat.le_refl _) (B116.size)
  refine EL_val v118 w119 rfl (r_assign rfl) ?_
  refine EL_nil ?_
  refine thn_n ?_
  refine EC_reg ?_
  refine EL_val (.int .i64 x107) w119 rfl (r_move rfl) ?_
  refine EL_int (x107 / 256) rfl (r_quoi rfl rfl (by omega) (by omega)) ?_
  intro x127 hx127
  refine EL_val (.int .i64 x127) w119 rfl (r_assign rfl) ?_
  refine EL_nil ?_
  refine inB_n ?_
  refine thn_n ?_
  refine EC_reg ?_
  refine EL_val (.int .i64 5) w119 rfl (r_move rfl) ?_
  refine EL_val (.int .i64 6) w119 rfl (r_asn (by kernel_rfl) (r_add rfl rfl)) ?_
  refine EL_val (.int .i64 6) w119 rfl (r_assign rfl) ?_
  refine EL_nil ?_
  refine thn_n ?_
  refine U_step ?_
  refine EC_seq ?_
  refine EC_seq ?_
  refine EC_reg ?_
  refine EL_val (.int .i64 6) w119 rfl (r_move rfl) ?_
  refine EL_val (.bool true) w119 rfl (r_dec (by decide) (r_lss rfl rfl)) ?_
  refine EL_nil ?_
  refine thn_n ?_
  refine EC_cond_true rfl ?_
  refine EC_skip ?_
  refine thn_n ?_
  refine EC_seq ?_
  refine EC_block ?_
  refine EC_seq ?_
  refine EC_reg ?_
  refine EL_val v118 w119 rfl (r_move rfl) ?_
  refine EL_val (.int .i64 x127) w119 rfl (r_move rfl) ?_
  refine EL_int (x127 % 256) rfl (r_remi rfl rfl (by omega) (by omega)) ?_
  intro x128 hx128
  refine EL_val (.int .u8 (x128 % 256)) w119 rfl (r_convb 3 5 rfl Try.underlying3 Try.underlying5) ?_
  refine EL_lit w119.heap.size #[.int .u8 (x128 % 256)] elB rfl (by decide) rfl (Nat.le_refl _) (by kernel_rfl) ?_
  intro v129 w130 O131 B132 k133 z134
  have B135 : Below w.heap.size w w130 := below_full B123 B123.size B132
  have B136 : Below w13.heap.size w13 w130 := below_full B124 B124.size B132
  have B137 : Below w119.heap.size w119 w130 := B132
  have O131' := own_eq (l := [bof x128]) O131 (by simp [bof_val, byt])
  refine EL_append (v := v118) (xs := ((((([bof x11] ++ [bof x28]) ++ [bof x48]) ++ [bof x68]) ++ [bof x88]) ++ [bof x108]).map byt) (ys := [bof x128].map byt) w13.heap.size elB rfl rfl rfl (by simpa using (own_below O120' B137)) (own_row O131') (byt_one _) (by first | (simp only [List.length_map, List.length_nil]; omega) | (simp; done) | (simp; omega)) (by decide) B136.size ?_
  intro v138 w139 O140 G141 A142
  have O140' := own_app O140
  have B143 : Below w.heap.size w w139 := below_grew B135 G141 (own_below O120' B137) B18.size (B135.size)
  have B144 : Below w13.heap.size w13 w139 := below_grew B136 G141 (own_below O120' B137) (Nat.le_refl _) (B136.size)
  refine EL_val v138 w139 rfl (r_assign rfl) ?_
  refine EL_nil ?_
  refine thn_n ?_
  refine EC_reg ?_
  refine EL_val (.int .i64 x127) w139 rfl (r_move rfl) ?_
  refine EL_int (x127 / 256) rfl (r_quoi rfl rfl (by omega) (by omega)) ?_
  intro x147 hx147
  refine EL_val (.int .i64 x147) w139 rfl (r_assign rfl) ?_
  refine EL_nil ?_
  refine inB_n ?_
  refine thn_n ?_
  refine EC_reg ?_
  refine EL_val (.int .i64 6) w139 rfl (r_move rfl) ?_
  refine EL_val (.int .i64 7) w139 rfl (r_asn (by kernel_rfl) (r_add rfl rfl)) ?_
  refine EL_val (.int .i64 7) w139 rfl (r_assign rfl) ?_
  refine EL_nil ?_
  refine thn_n ?_
  refine U_step ?_
  refine EC_seq ?_
  refine EC_seq ?_
  refine EC_reg ?_
  refine EL_val (.int .i64 7) w139 rfl (r_move rfl) ?_
  refine EL_val (.bool true) w139 rfl (r_dec (by decide) (r_lss rfl rfl)) ?_
  refine EL_nil ?_
  refine thn_n ?_
  refine EC_cond_true rfl ?_
  refine EC_skip ?_
  refine thn_n ?_
  refine EC_seq ?_
  refine EC_block ?_
  refine EC_seq ?_
  refine EC_reg ?_
  refine EL_val v138 w139 rfl (r_move rfl) ?_
  refine EL_val (.int .i64 x147) w139 rfl (r_move rfl) ?_
  refine EL_int (x147 % 256) rfl (r_remi rfl rfl (by omega) (by omega)) ?_
  intro x148 hx148
  refine EL_val (.int .u8 (x148 % 256)) w139 rfl (r_convb 3 5 rfl Try.underlying3 Try.underlying5) ?_
  refine EL_lit w139.heap.size #[.int .u8 (x148 % 256)] elB rfl (by decide) rfl (Nat.le_refl _) (by kernel_rfl) ?_
  intro v149 w150 O151 B152 k153 z154
  have B155 : Below w.heap.size w w150 := below_full B143 B143.size B152
  have B156 : Below w13.heap.size w13 w150 := below_full B144 B144.size B152
  have B157 : Below w139.heap.size w139 w150 := B152
  have O151' := own_eq (l := [bof x148]) O151 (by simp [bof_val, byt])
  refine EL_append (v := v138) (xs := (((((([bof x11] ++ [bof x28]) ++ [bof x48]) ++ [bof x68]) ++ [bof x88]) ++ [bof x108]) ++ [bof x128]).map byt) (ys := [bof x148].map byt) w13.heap.size elB rfl rfl rfl (by simpa using (own_below O140' B157)) (own_row O151') (byt_one _) (by first | (simp only [List.length_map, List.length_nil]; omega) | (simp; done) | (simp; omega)) (by decide) B156.size ?_
  intro v158 w159 O160 G161 A162
  have O160' := own_app O160
  have B163 : Below w.heap.size w w159 := below_grew B155 G161 (own_below O140' B157) B18.size (B155.size)
  have B164 : Below w13.heap.size w13 w159 := below_grew B156 G161 (own_below O140' B157) (Nat.le_refl _) (B156.size)
  refine EL_val v158 w159 rfl (r_assign rfl) ?_
  refine EL_nil ?_
  refine thn_n ?_
  refine EC_reg ?_
  refine EL_val (.int .i64 x147) w159 rfl (r_move rfl) ?_
  refine EL_int (x147 / 256) rfl (r_quoi rfl rfl (by omega) (by omega)) ?_
  intro x167 hx167
  refine EL_val (.int .i64 x167) w159 rfl (r_assign rfl) ?_
  refine EL_nil ?_
  refine inB_n ?_
  refine thn_n ?_
  refine EC_reg ?_
  refine EL_val (.int .i64 7) w159 rfl (r_move rfl) ?_
  refine EL_val (.int .i64 8) w159 rfl (r_asn (by kernel_rfl) (r_add rfl rfl)) ?_
  refine EL_val (.int .i64 8) w159 rfl (r_assign rfl) ?_
  refine EL_nil ?_
  refine thn_n ?_
  refine U_step ?_
  refine EC_seq ?_
  refine EC_seq ?_
  refine EC_reg ?_
  refine EL_val (.int .i64 8) w159 rfl (r_move rfl) ?_
  refine EL_val (.bool false) w159 rfl (r_dec (by decide) (r_lss rfl rfl)) ?_
  refine EL_nil ?_
  refine thn_n ?_
  refine EC_cond_false rfl ?_
  refine EC_exit ?_
  refine thn_x ?_
  refine thn_x ?_
  refine inB_hit ?_
  refine thn_n ?_
  refine EC_seq ?_
  refine EC_reg ?_
  refine EL_val v158 w159 rfl (r_move rfl) ?_
  refine EL_val v158 w159 rfl (r_assign rfl) ?_
  refine EL_nil ?_
  refine thn_n ?_
  refine EC_ret ?_
  refine fin1 Try.results32 (show _ = v158 from rfl) ⟨_, rfl, ?_⟩
  have ef : (((((([bof x11] ++ [bof x28]) ++ [bof x48]) ++ [bof x68]) ++ [bof x88]) ++ [bof x108]) ++ [bof x128]) ++ [bof x148] = e8 n := by
    simp only [e8, List.cons_append, List.nil_append, List.cons.injEq, and_true]
    refine ⟨?_, ?_, ?_, ?_, ?_, ?_, ?_, ?_⟩ <;> apply bof_eq <;> omega
  exact ⟨own_as (own_mono O160' B18.size) ef, B163⟩

end Go.Proofs.Ytlhaojpkejpgfaa
