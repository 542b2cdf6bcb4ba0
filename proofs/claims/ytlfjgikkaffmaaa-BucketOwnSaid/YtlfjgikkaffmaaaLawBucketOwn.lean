/-
  What is put in and taken out is its own.
  Its conditions: none: whatever the input, in whatever memory.
-/
import Derived.Test.YtlfjgikkaffmaaaRows
import Derived.Test.YtlfjgikkaffmaaaWalks
import Derived.ProofKit
import Derived.OpenShut
import Derived.ShutString
import Derived.ChangeOld
set_option linter.unusedVariables false
set_option linter.unusedSimpArgs false
namespace Go.Proofs.Ytlfjgikkaffmaaa.bucketOwn
open Go.ChangeShapes Go.WideShapes Go.ChangeAt Go.RowKit Go.Ecal
open Go.ChangeMaps (open_string shut_string)
theorem BucketOwn_c (v0 : Value) (b : List UInt8) (w : World) (H0 : Bs w v0 b) : Ret Try.prog 8 [v0] w fun v w' => v = .bool true ∧ Below w.heap.size w w' := by
  have hl := H0.len_le
  simp only [List.length_map] at hl
  refine ret_E Try.func8 rfl Try.ntmps8 (by simp) ?_
  refine EC_seq ?_
  refine EC_reg ?_
  refine EL_val (.bool false) w rfl (r_assign rfl) ?_
  refine EL_nil ?_
  refine thn_n ?_
  refine EC_seq ?_
  refine EC_seq ?_
  refine EC_reg ?_
  refine EL_ret [] rfl Try.func9 rfl nm9 rfl (anchor_c w) ?_
  rintro _ w1 ⟨rfl, B2⟩
  have B3 : Below w.heap.size w w1 := B2
  refine EL_val (.bool false) w1 rfl (r_dec (show (!true) = false from rfl) (r_not rfl)) ?_
  refine EL_nil ?_
  refine thn_n ?_
  refine EC_cond_false rfl ?_
  refine EC_skip ?_
  refine thn_n ?_
  refine EC_seq ?_
  refine EC_seq ?_
  refine EC_reg ?_
  refine EL_val v0 w1 rfl (r_move rfl) ?_
  refine EL_val (.int .i64 (b.length : Int)) w1 rfl (lenB (r_len rfl (H0.below B3) Try.underlying28)) ?_
  refine EL_val (.bool (decide (500 < (b.length : Int)))) w1 rfl (r_gtr rfl rfl) ?_
  refine EL_nil ?_
  refine thn_n ?_
  refine EC_if (p := 500 < (b.length : Int)) rfl (fun h4 => ?_) (fun h4 => ?_)
  · refine EC_seq ?_
    refine EC_reg ?_
    refine EL_val (.bool true) w1 rfl (r_assign rfl) ?_
    refine EL_nil ?_
    refine thn_n ?_
    refine EC_ret ?_
    refine thn_r ?_
    refine fin1 Try.results8 (show _ = .bool true from rfl) ⟨_, rfl, ?_⟩
    exact ⟨rfl, B3⟩
  · have hp4 := bpad_most (b := b) (by omega)
    refine EC_skip ?_
    refine thn_n ?_
    refine EC_seq ?_
    refine EC_reg ?_
    refine EL_make w1.heap.size elB rfl rfl rfl rfl (by omega) (by omega) (by omega) (by omega) (Nat.le_refl _) ?_
    intro v5 w6 O7 B8 k9 z10
    have B11 : Below w.heap.size w w6 := below_full B3 B3.size B8
    have B12 : Below w1.heap.size w1 w6 := B8
    have O13 := own_rep O7
    refine EL_val v0 w6 rfl (r_move rfl) ?_
    refine EL_append (v := v5) (xs := (List.replicate (0 : Int).toNat (0 : UInt8)).map byt) (ys := b.map byt) w1.heap.size elB rfl rfl rfl (by simpa using O13) (H0.below B11) (byt_one _) (by first | (simp only [List.length_map, List.length_nil]; omega) | (simp; omega)) (by decide) B12.size ?_
    intro v14 w15 O16 G17 A18
    have O16' := own_app O16
    have B19 : Below w.heap.size w w15 := below_grew B11 G17 O13 B3.size (B11.size)
    have B20 : Below w1.heap.size w1 w15 := below_grew B12 G17 O13 (Nat.le_refl _) (B12.size)
    refine EL_val v14 w15 rfl (r_assign rfl) ?_
    have O22 := own_as O16' (show (List.replicate (0 : Int).toNat (0 : UInt8)) ++ b = b by simp)
    refine EL_nil ?_
    refine thn_n ?_
    refine EC_seq ?_
    refine EC_reg ?_
    refine EL_val v14 w15 rfl (r_move rfl) ?_
    refine EL_ret [v14] rfl Try.func12 rfl nm12 rfl (pad_ok v14 b w15 (own_row O22) (by first | omega | (simp; done) | (simp; omega))) ?_
    rintro _ w26 ⟨p23, rfl, O24, B25⟩
    have B27 : Below w.heap.size w w26 := below_full B19 B19.size B25
    have B28 : Below w1.heap.size w1 w26 := below_full B20 B20.size B25
    have B29 : Below w15.heap.size w15 w26 := B25
    refine EL_val (.tuple #[p23, .int .i64 0]) w26 rfl (r_move rfl) ?_
    refine EL_val p23 w26 rfl (r_extract rfl rfl) ?_
    refine EL_val (.int .i64 0) w26 rfl (r_extract rfl rfl) ?_
    refine EL_val p23 w26 rfl (r_assign rfl) ?_
    refine EL_val (.int .i64 0) w26 rfl (r_assign rfl) ?_
    refine EL_nil ?_
    refine thn_n ?_
    refine EC_seq ?_
    refine EC_reg ?_
    refine EL_lit w26.heap.size #[] elB rfl (by decide) rfl (Nat.le_refl _) (by kernel_rfl) ?_
    intro v30 w31 O32 B33 k34 z35
    have B36 : Below w.heap.size w w31 := below_full B27 B27.size B33
    have B37 : Below w1.heap.size w1 w31 := below_full B28 B28.size B33
    have B38 : Below w15.heap.size w15 w31 := below_full B29 B29.size B33
    have B39 : Below w26.heap.size w26 w31 := B33
    have O32' := own_eq (l := ([] : List UInt8)) O32 (by simp [bof_val, byt])
    refine EL_val p23 w31 rfl (r_move rfl) ?_
    refine EL_append (v := v30) (xs := ([] : List UInt8).map byt) (ys := (bpad b).map byt) w26.heap.size elB rfl rfl rfl (by simpa using O32') ((own_row O24).below B39) (byt_one _) (by first | (simp only [List.length_map, List.length_nil]; omega) | (simp; omega)) (by decide) B39.size ?_
    intro v40 w41 O42 G43 A44
    have O42' := own_app O42
    have B45 : Below w.heap.size w w41 := below_grew B36 G43 O32' B27.size (B36.size)
    have B46 : Below w1.heap.size w1 w41 := below_grew B37 G43 O32' B28.size (B37.size)
    have B47 : Below w15.heap.size w15 w41 := below_grew B38 G43 O32' B29.size (B38.size)
    have B48 : Below w26.heap.size w26 w41 := below_grew B39 G43 O32' (Nat.le_refl _) (B39.size)
    refine EL_val v40 w41 rfl (r_assign rfl) ?_
    refine EL_nil ?_
    refine thn_n ?_
    refine EC_seq ?_
    refine EC_reg ?_
    refine EL_val p23 w41 rfl (r_move rfl) ?_
    refine EL_ret [p23] rfl Try.func13 rfl nm13 rfl (strip_some p23 (bpad b) b w41 ((own_row O24).below B48) (bstrip_bpad (by omega))) ?_
    rintro _ w53 ⟨p50, rfl, O51, B52⟩
    have B54 : Below w.heap.size w w53 := below_full B45 B45.size B52
    have B55 : Below w1.heap.size w1 w53 := below_full B46 B46.size B52
    have B56 : Below w15.heap.size w15 w53 := below_full B47 B47.size B52
    have B57 : Below w26.heap.size w26 w53 := below_full B48 B48.size B52
    have B58 : Below w41.heap.size w41 w53 := B52
    refine EL_val (.tuple #[p50, .int .i64 0]) w53 rfl (r_move rfl) ?_
    refine EL_val p50 w53 rfl (r_extract rfl rfl) ?_
    refine EL_val (.int .i64 0) w53 rfl (r_extract rfl rfl) ?_
    refine EL_val p50 w53 rfl (r_assign rfl) ?_
    refine EL_val (.int .i64 0) w53 rfl (r_assign rfl) ?_
    refine EL_nil ?_
    refine thn_n ?_
    refine EC_seq ?_
    refine EC_seq ?_
    refine EC_reg ?_
    refine EL_val p50 w53 rfl (r_move rfl) ?_
    refine EL_val (.int .i64 (b.length : Int)) w53 rfl (lenB (r_len rfl (own_row O51) Try.underlying28)) ?_
    refine EL_val (.int .i64 0) w53 rfl (r_move rfl) ?_
    refine EL_nil ?_
    refine thn_n ?_
    refine EC_block ?_
    refine EC_loop (fun m' E' w' => ∃ i : Int, ∃ lt : List UInt8, m' = (b.length - i).toNat ∧ E' 33 = .int .i64 i ∧ E' 0 = v0 ∧ E' 2 = .bool false ∧ E' 3 = v14 ∧ E' 4 = p23 ∧ E' 5 = .int .i64 0 ∧ E' 6 = v40 ∧ E' 7 = p50 ∧ E' 8 = .int .i64 0 ∧ E' 32 = .int .i64 (b.length : Int) ∧ (0 ≤ i ∧ i ≤ (b.length : Int)) ∧ (lt.length = b.length) ∧ Below w.heap.size w w' ∧ Below w1.heap.size w1 w' ∧ Below w15.heap.size w15 w' ∧ Below w26.heap.size w26 w' ∧ Below w41.heap.size w41 w' ∧ w'.ownsRow w41.heap.size 5 1 p50 (lt).length ((lt).map byt)) _ ⟨0, b, rfl, rfl, rfl, rfl, rfl, rfl, rfl, rfl, rfl, rfl, rfl, by omega, rfl, B54, B55, B56, B57, B58, O51⟩ ?_
    rintro _ E59 w60 ⟨i, lt, rfl, e61, e62, e63, e64, e65, e66, e67, e68, e69, e70, hi, hlt, B71, B72, B73, B74, B75, O76⟩
    refine EC_seq ?_
    refine EC_reg ?_
    refine EL_val (.bool (decide (i < (b.length : Int)))) w60 rfl (r_lss (by exact e61) (by exact e70)) ?_
    refine EL_nil ?_
    refine thn_n ?_
    refine EC_seq ?_
    refine EC_if (p := i < (b.length : Int)) rfl (fun h77 => ?_) (fun h77 => ?_)
    · refine EC_skip ?_
      refine thn_n ?_
      refine EC_seq ?_
      refine EC_block ?_
      refine EC_seq ?_
      refine EC_reg ?_
      refine EL_val (.int .i64 i) w60 rfl (r_move (by exact e61)) ?_
      refine EL_val (.int .i64 i) w60 rfl (r_assign rfl) ?_
      refine EL_nil ?_
      refine thn_n ?_
      refine EC_reg ?_
      refine EL_val p50 w60 rfl (r_move (by exact e68)) ?_
      refine EL_val (.int .i64 i) w60 rfl (r_move rfl) ?_
      refine EL_val (.pointer (some (at_ p50 ((i : Int).toNat)))) w60 rfl (r_index rfl (own_row O76) rfl (by omega) (by first | omega | (simp; omega) | simp) Try.underlying28 (by kernel_rfl)) ?_
      obtain ⟨b78, hb79⟩ := get_some (l := lt) (j := (i : Int).toNat) (by omega)
      have hb80 := b78.toNat_lt
      refine EL_val (.int .u8 (b78.toNat : Int)) w60 rfl (r_load rfl ((own_row O76).cell (bs_get hb79)) Try.underlying5 rfl) ?_
      refine EL_val (.int .u8 ((b78 ^^^ (255 : UInt8)).toNat : Int)) w60 rfl (r_xorb (a := b78) (b := (255 : UInt8)) rfl rfl) ?_
      refine EL_val (.pointer (some (at_ p50 ((i : Int).toNat)))) w60 rfl (r_index rfl (own_row O76) rfl (by omega) (by first | omega | (simp; omega) | simp) Try.underlying28 (by kernel_rfl)) ?_
      refine EL_store (u := byt (b78 ^^^ (255 : UInt8))) rfl rfl O76 (by first | omega | (simp; omega)) rfl (by kernel_rfl) ?_
      intro w81 O82 G83 z84
      have O82' := own_set O82
      have B85 : Below w.heap.size w w81 := below_grew B71 G83 O76 B45.size (B71.size)
      have B86 : Below w1.heap.size w1 w81 := below_grew B72 G83 O76 B46.size (B72.size)
      have B87 : Below w15.heap.size w15 w81 := below_grew B73 G83 O76 B47.size (B73.size)
      have B88 : Below w26.heap.size w26 w81 := below_grew B74 G83 O76 B48.size (B74.size)
      have B89 : Below w41.heap.size w41 w81 := below_grew B75 G83 O76 (Nat.le_refl _) (B75.size)
      refine EL_nil ?_
      refine inB_n ?_
      refine thn_n ?_
      refine EC_reg ?_
      refine EL_int (i + 1) rfl (r_addi (by exact e61) rfl (by omega)) ?_
      intro x90 hx90
      refine EL_val (.int .i64 x90) w81 rfl (r_move rfl) ?_
      refine EL_nil ?_
      refine thn_n ?_
      refine ⟨_, ?_, x90, lt.set ((i : Int).toNat) (b78 ^^^ (255 : UInt8)), rfl, rfl, (by exact e62), (by exact e63), (by exact e64), (by exact e65), (by exact e66), (by exact e67), (by exact e68), (by exact e69), (by exact e70), by omega, by simp; omega, B85, B86, B87, B88, B89, O82'⟩
      first | omega | (simp; omega)
    · refine EC_exit ?_
      refine thn_x ?_
      refine thn_x ?_
      refine inB_hit ?_
      refine thn_n ?_
      refine EC_seq ?_
      refine EC_reg ?_
      refine EL_val (.int .i64 0) w60 rfl (r_move (by exact e66)) ?_
      refine EL_val (.bool true) w60 rfl (r_dec (by decide) (r_eql rfl rfl)) ?_
      refine EL_val (.bool true) w60 rfl (r_move rfl) ?_
      refine EL_gval 45 rfl rfl rfl rfl (.int .i64 0) w60 rfl (r_move (by exact e69)) ?_
      refine EL_gval 45 rfl rfl rfl rfl (.bool true) w60 rfl (r_dec (by decide) (r_eql rfl rfl)) ?_
      refine EL_val (.bool true) w60 rfl (r_pickT rfl rfl) ?_
      refine EL_val (.bool true) w60 rfl (r_move rfl) ?_
      refine EL_gval 49 rfl rfl rfl rfl v14 w60 rfl (r_move (by exact e64)) ?_
      refine EL_gval 49 rfl rfl rfl rfl (.string (str b)) w60 rfl (r_str rfl ((own_row O22).below B73) Try.underlying28 Try.underlying5 Try.underlying9) ?_
      refine EL_gval 49 rfl rfl rfl rfl v0 w60 rfl (r_move (by exact e62)) ?_
      refine EL_gval 49 rfl rfl rfl rfl (.string (str b)) w60 rfl (r_str rfl (H0.below B71) Try.underlying28 Try.underlying5 Try.underlying9) ?_
      refine EL_gval 49 rfl rfl rfl rfl (.bool true) w60 rfl (r_dec (show (decide (b = b)) = true from by simp) (r_eqls rfl rfl)) ?_
      refine EL_val (.bool true) w60 rfl (r_pickT rfl rfl) ?_
      refine EL_val (.bool true) w60 rfl (r_move rfl) ?_
      refine EL_gval 56 rfl rfl rfl rfl p23 w60 rfl (r_move (by exact e65)) ?_
      refine EL_gval 56 rfl rfl rfl rfl (.string (str (bpad b))) w60 rfl (r_str rfl ((own_row O24).below B74) Try.underlying28 Try.underlying5 Try.underlying9) ?_
      refine EL_gval 56 rfl rfl rfl rfl v40 w60 rfl (r_move (by exact e67)) ?_
      refine EL_gval 56 rfl rfl rfl rfl (.string (str (([] : List UInt8) ++ (bpad b)))) w60 rfl (r_str rfl ((own_row O42').below B75) Try.underlying28 Try.underlying5 Try.underlying9) ?_
      refine EL_gval 56 rfl rfl rfl rfl (.bool true) w60 rfl (r_dec (show (decide ((bpad b) = (([] : List UInt8) ++ (bpad b)))) = true from by simp) (r_eqls rfl rfl)) ?_
      refine EL_val (.bool true) w60 rfl (r_pickT rfl rfl) ?_
      refine EL_val (.bool true) w60 rfl (r_assign rfl) ?_
      refine EL_nil ?_
      refine thn_n ?_
      refine EC_ret ?_
      refine fin1 Try.results8 (show _ = .bool true from rfl) ⟨_, rfl, ?_⟩
      exact ⟨rfl, B71⟩
theorem own : ownKnob Try.prog.godebug = none := by kernel_rfl
theorem laidOut : laidOutB Try.prog = true := by kernel_rfl
set_option maxRecDepth 100000 in
theorem lifted (os : Os) (started : os.Started) (H : Type) (enc : TypeId × Value → H) :
    ReturnsInHanded {} Try.checked os 8 .any (Rows.bucketOwnSpec.pre6 enc Try.prog Try.f8 Rows.bucketOwnRow.domain false) (Rows.bucketOwnSpec.post enc Try.prog Try.f8 false true false false) := by
  refine returnsInHanded_of_change (C := Try.checked) own started (by kernel_rfl) Try.func8
    (ChangeSpec.witness6 (enc := enc) (C := Try.checked) false ⟨#[], #[.slice none 0 0], []⟩ 8 (by kernel_rfl) (by kernel_rfl) (by kernel_rfl) (by kernel_rfl)) ?_
  intro W base args ds gs before hval0 hW hcnd _
  have hval : ∀ (j : Nat) t v, Try.f8.params[j]? = some t → args[j]? = some v → Value.okWide Try.prog W .any base t v := hval0
  have hW' := hW
  obtain ⟨p, q, hA0, hV, rfl, hfz, hnd⟩ := hW
  have hA : DataW.TrodAll enc Try.prog W 0 (fun _ => true) true Try.f8.params.toList args.toList ds p := hA0
  rw [Try.params8] at hA hval
  obtain ⟨v0, vs0, d0, ds0, p0, q0, hargs, rfl, rfl, h0, r0⟩ := trodAll_cons hA
  obtain ⟨rfl, rfl, rfl⟩ := trodAll_nil r0
  obtain rfl : args = #[v0] := by cases args; simp_all
  obtain ⟨rfl, rfl⟩ := trodVars_none hV
  have k0 := h0
  have lt0 : ∀ x ∈ p0, x.block < W.heap.size := by obtain ⟨m, hm⟩ := k0; exact DataW.trod_lt m _ _ _ hm
  obtain ⟨a0, len0, cap0, rfl⟩ := okWide_slice Try.underlying28 (hval 0 28 v0 rfl rfl)
  obtain ⟨b0, H0⟩ : ∃ l, Bs W (.slice a0 len0 cap0) l := by
    obtain ⟨fuel, hf⟩ := h0
    rcases open_ints Try.underlying28 Try.underlying5 (by kernel_rfl) hf with ⟨hcs, _⟩ | ⟨x, l, c, zs, hcs, _, hl, hm, hz, _, hcell, hwz⟩
    · simp [Value.cells] at hcs
      obtain ⟨rfl, rfl, rfl⟩ := hcs
      exact ⟨[], Row.nil W⟩
    · simp [Value.cells] at hcs
      obtain ⟨rfl, rfl, rfl⟩ := hcs
      exact bs_open hl hm (by simpa using hz) hcell hwz
  clear hA0 hval0
  refine Calls.mono (BucketOwn_c (.slice a0 len0 cap0) b0 W H0) fun e W' ⟨v', he, hv, bel⟩ => ?_
  subst he
  subst hv
  exact ⟨_, rfl, _, _, _, [], _, [], hW', trodAll_mk1 (shut_bool Try.underlying4 _), (trodAll_cons_mk (Below.trod laidOut (by kernel_rfl) (of_decide_eq_true (by kernel_rfl)) k0 bel lt0) trodAll_mk0), rfl, bel.frame _, fun h => by cases h⟩
theorem over : Rows.bucketOwnRow.holds Try.pinned (OpenSpec.ofChange Rows.bucketOwnSpec) :=
  OpenClaim.holds_of_wide 8 Try.f8 rfl rfl rfl rfl rfl rfl rfl ⟨rfl, rfl, rfl, rfl, rfl⟩ rfl rfl rfl rfl rfl (by kernel_rfl) Try.func8 (by kernel_rfl)
    (of_decide_eq_true (by kernel_rfl)) (by unfold Func.isWrapper; first | (rw [if_pos (by decide +kernel)]; kernel_rfl) | (rw [if_neg (by decide +kernel)]; exact ⟨rfl, rfl⟩))
    (fun os started H enc _ => lifted os started H enc)
end Go.Proofs.Ytlfjgikkaffmaaa.bucketOwn
namespace Go.Proofs.Ytlfjgikkaffmaaa
theorem BucketOwn_holds : Rows.BucketOwnSaid := bucketOwn.over
end Go.Proofs.Ytlfjgikkaffmaaa
