/-
  Any text is xored with the document's stream, and twice it is as it was.
  Its conditions: none: whatever the input, in whatever memory.
-/
import Derived.Test.YtanlbploeifhpaaRows
import Derived.Test.YtanlbploeifhpaaWalksE
import Derived.ProofKit
import Derived.OpenShut
import Derived.ShutString
import Derived.ChangeOld
set_option linter.unusedVariables false
set_option linter.unusedSimpArgs false
namespace Go.Proofs.Ytanlbploeifhpaa.chachaTexts
open Go.ChangeShapes Go.WideShapes Go.ChangeAt Go.RowKit Go.Ecal
open Go.ChangeMaps (open_string shut_string)
set_option maxHeartbeats 2000000 in
theorem ChachaTexts_c (v0 : Value) (k : List UInt8) (c : Int) (v1 : Value) (n : List UInt8) (v2 : Value) (t : List UInt8) (w : World) (H0 : Bs w v0 k) (hc : -9223372036854775808 ≤ c ∧ c ≤ 9223372036854775807) (H1 : Bs w v1 n) (H2 : Bs w v2 t) : Ret Try.prog 4 [v0, .int .i64 c, v1, v2] w fun v w' => v = .bool true ∧ Below w.heap.size w w' := by
  refine ret_E Try.func4 rfl Try.ntmps4 (by simp) ?_
  refine EC_seq ?_
  refine EC_reg ?_
  refine EL_val (.bool false) w rfl (r_assign rfl) ?_
  refine EL_nil ?_
  refine thn_n ?_
  refine EC_seq ?_
  refine EC_seq ?_
  refine EC_reg ?_
  refine EL_ret [] rfl Try.func9 rfl nm9 rfl (anchor_c w) ?_
  rintro _ w11 ⟨rfl, B12⟩
  have B13 : Below w.heap.size w w11 := B12
  refine EL_val (.bool false) w11 rfl (r_dec (show (!true) = false from rfl) (r_not rfl)) ?_
  refine EL_nil ?_
  refine thn_n ?_
  refine EC_cond_false rfl ?_
  refine EC_skip ?_
  refine thn_n ?_
  refine EC_seq ?_
  refine EC_seq ?_
  refine EC_reg ?_
  refine EL_val v2 w11 rfl (r_move rfl) ?_
  refine EL_val (.int .i64 (t.length : Int)) w11 rfl (lenB (r_len rfl (H2.below B13) Try.underlying22)) ?_
  refine EL_val (.bool (decide (400 < (t.length : Int)))) w11 rfl (r_gtr rfl rfl) ?_
  refine EL_nil ?_
  refine thn_n ?_
  refine EC_if (p := 400 < (t.length : Int)) rfl (fun h14 => ?_) (fun h14 => ?_)
  · refine EC_seq ?_
    refine EC_reg ?_
    refine EL_val (.bool true) w11 rfl (r_assign rfl) ?_
    refine EL_nil ?_
    refine thn_n ?_
    refine EC_ret ?_
    refine thn_r ?_
    refine fin1 Try.results4 (show _ = .bool true from rfl) ⟨_, rfl, ?_⟩
    exact ⟨rfl, B13⟩
  · refine EC_skip ?_
    refine thn_n ?_
    refine EC_seq ?_
    rcases chk_cases k n c with ⟨hs, he⟩ | ⟨hs, hr, he⟩ | ⟨hs, hr, he⟩
    · refine EC_reg ?_
      refine EL_val v0 w11 rfl (r_move rfl) ?_
      refine EL_val (.int .i64 c) w11 rfl (r_move rfl) ?_
      refine EL_val v1 w11 rfl (r_move rfl) ?_
      refine EL_val v2 w11 rfl (r_move rfl) ?_
      refine EL_ret [v0, .int .i64 c, v1, v2] rfl Try.func12 rfl nm12 rfl (XOR_no v0 k c v1 n v2 t w11 (H0.below B13) (H1.below B13) (H2.below B13) 11 he (by decide)) ?_
      rintro _ _ ⟨rfl, rfl⟩
      refine EL_val (.tuple #[.slice none 0 0, .int .i64 11]) w11 rfl (r_move rfl) ?_
      refine EL_val (.slice none 0 0) w11 rfl (r_extract rfl rfl) ?_
      refine EL_val (.int .i64 11) w11 rfl (r_extract rfl rfl) ?_
      refine EL_val (.slice none 0 0) w11 rfl (r_assign rfl) ?_
      refine EL_val (.int .i64 11) w11 rfl (r_assign rfl) ?_
      refine EL_nil ?_
      refine thn_n ?_
      refine EC_seq ?_
      refine EC_seq ?_
      refine EC_reg ?_
      refine EL_val v0 w11 rfl (r_move rfl) ?_
      refine EL_val (.int .i64 (k.length : Int)) w11 rfl (lenB (r_len rfl (H0.below B13) Try.underlying22)) ?_
      refine EL_val (.bool (decide ((k.length : Int) ≠ 32))) w11 rfl (r_neq rfl rfl) ?_
      refine EL_val (.bool (decide ((k.length : Int) ≠ 32))) w11 rfl (r_move rfl) ?_
      refine EL_gite 29 rfl rfl rfl v1 rfl (fun g15 => r_move rfl) ?_
      refine EL_gite 29 rfl rfl rfl (.int .i64 (n.length : Int)) rfl (fun g16 => lenB (r_len (cond_of g16 rfl) (H1.below B13) Try.underlying22)) ?_
      refine EL_gite 29 rfl rfl rfl (.bool (decide ((n.length : Int) ≠ 12))) rfl (fun g17 => r_neq (cond_of g17 rfl) rfl) ?_
      refine EL_val (.bool ((decide ((k.length : Int) ≠ 32)) || (decide ((n.length : Int) ≠ 12)))) w11 rfl (r_or rfl rfl rfl) ?_
      refine EL_val (.bool ((decide ((k.length : Int) ≠ 32)) || (decide ((n.length : Int) ≠ 12)))) w11 rfl (r_move rfl) ?_
      refine EL_gite 34 rfl rfl rfl (.int .i64 c) rfl (fun g18 => r_move rfl) ?_
      refine EL_gite 34 rfl rfl rfl (.bool (decide (c < 0))) rfl (fun g19 => r_lss (cond_of g19 rfl) rfl) ?_
      refine EL_val (.bool (((decide ((k.length : Int) ≠ 32)) || (decide ((n.length : Int) ≠ 12))) || (decide (c < 0)))) w11 rfl (r_or rfl rfl rfl) ?_
      refine EL_val (.bool (((decide ((k.length : Int) ≠ 32)) || (decide ((n.length : Int) ≠ 12))) || (decide (c < 0)))) w11 rfl (r_move rfl) ?_
      refine EL_gite 38 rfl rfl rfl (.int .i64 c) rfl (fun g20 => r_move rfl) ?_
      refine EL_gite 38 rfl rfl rfl (.bool (decide (4294967295 < c))) rfl (fun g21 => r_gtr (cond_of g21 rfl) rfl) ?_
      refine EL_val (.bool ((((decide ((k.length : Int) ≠ 32)) || (decide ((n.length : Int) ≠ 12))) || (decide (c < 0))) || (decide (4294967295 < c)))) w11 rfl (r_or rfl rfl rfl) ?_
      refine EL_nil ?_
      refine thn_n ?_
      refine EC_cond_true (Eq.trans (show _ = Value.bool ((((decide ((k.length : Int) ≠ 32)) || (decide ((n.length : Int) ≠ 12))) || (decide (c < 0))) || (decide (4294967295 < c))) from rfl) (congrArg Value.bool (show ((((decide ((k.length : Int) ≠ 32)) || (decide ((n.length : Int) ≠ 12))) || (decide (c < 0))) || (decide (4294967295 < c))) = true from by simp; omega))) ?_
      refine EC_seq ?_
      refine EC_reg ?_
      refine EL_val (.int .i64 11) w11 rfl (r_move rfl) ?_
      refine EL_val (.bool true) w11 rfl (r_dec (by decide) (r_neq rfl rfl)) ?_
      refine EL_val (.bool true) w11 rfl (r_move rfl) ?_
      refine EL_gval 44 rfl rfl rfl rfl (.slice none 0 0) w11 rfl (r_move rfl) ?_
      refine EL_gval 44 rfl rfl rfl rfl (.int .i64 (([] : List UInt8).length : Int)) w11 rfl (lenB (r_len rfl (Row.nil _) Try.underlying22)) ?_
      refine EL_gval 44 rfl rfl rfl rfl (.bool true) w11 rfl (r_dec (show (decide ((([] : List UInt8).length : Int) = 0)) = true from by simp) (r_eql rfl rfl)) ?_
      refine EL_val (.bool true) w11 rfl (r_pickT rfl rfl) ?_
      refine EL_val (.bool true) w11 rfl (r_assign rfl) ?_
      refine EL_nil ?_
      refine thn_n ?_
      refine EC_ret ?_
      refine thn_r ?_
      refine fin1 Try.results4 (show _ = .bool true from rfl) ⟨_, rfl, ?_⟩
      exact ⟨rfl, B13⟩
    · refine EC_reg ?_
      refine EL_val v0 w11 rfl (r_move rfl) ?_
      refine EL_val (.int .i64 c) w11 rfl (r_move rfl) ?_
      refine EL_val v1 w11 rfl (r_move rfl) ?_
      refine EL_val v2 w11 rfl (r_move rfl) ?_
      refine EL_ret [v0, .int .i64 c, v1, v2] rfl Try.func12 rfl nm12 rfl (XOR_no v0 k c v1 n v2 t w11 (H0.below B13) (H1.below B13) (H2.below B13) 12 he (by decide)) ?_
      rintro _ _ ⟨rfl, rfl⟩
      refine EL_val (.tuple #[.slice none 0 0, .int .i64 12]) w11 rfl (r_move rfl) ?_
      refine EL_val (.slice none 0 0) w11 rfl (r_extract rfl rfl) ?_
      refine EL_val (.int .i64 12) w11 rfl (r_extract rfl rfl) ?_
      refine EL_val (.slice none 0 0) w11 rfl (r_assign rfl) ?_
      refine EL_val (.int .i64 12) w11 rfl (r_assign rfl) ?_
      refine EL_nil ?_
      refine thn_n ?_
      refine EC_seq ?_
      refine EC_seq ?_
      refine EC_reg ?_
      refine EL_val v0 w11 rfl (r_move rfl) ?_
      refine EL_val (.int .i64 (k.length : Int)) w11 rfl (lenB (r_len rfl (H0.below B13) Try.underlying22)) ?_
      refine EL_val (.bool (decide ((k.length : Int) ≠ 32))) w11 rfl (r_neq rfl rfl) ?_
      refine EL_val (.bool (decide ((k.length : Int) ≠ 32))) w11 rfl (r_move rfl) ?_
      refine EL_gite 29 rfl rfl rfl v1 rfl (fun g22 => r_move rfl) ?_
      refine EL_gite 29 rfl rfl rfl (.int .i64 (n.length : Int)) rfl (fun g23 => lenB (r_len (cond_of g23 rfl) (H1.below B13) Try.underlying22)) ?_
      refine EL_gite 29 rfl rfl rfl (.bool (decide ((n.length : Int) ≠ 12))) rfl (fun g24 => r_neq (cond_of g24 rfl) rfl) ?_
      refine EL_val (.bool ((decide ((k.length : Int) ≠ 32)) || (decide ((n.length : Int) ≠ 12)))) w11 rfl (r_or rfl rfl rfl) ?_
      refine EL_val (.bool ((decide ((k.length : Int) ≠ 32)) || (decide ((n.length : Int) ≠ 12)))) w11 rfl (r_move rfl) ?_
      refine EL_gite 34 rfl rfl rfl (.int .i64 c) rfl (fun g25 => r_move rfl) ?_
      refine EL_gite 34 rfl rfl rfl (.bool (decide (c < 0))) rfl (fun g26 => r_lss (cond_of g26 rfl) rfl) ?_
      refine EL_val (.bool (((decide ((k.length : Int) ≠ 32)) || (decide ((n.length : Int) ≠ 12))) || (decide (c < 0)))) w11 rfl (r_or rfl rfl rfl) ?_
      refine EL_val (.bool (((decide ((k.length : Int) ≠ 32)) || (decide ((n.length : Int) ≠ 12))) || (decide (c < 0)))) w11 rfl (r_move rfl) ?_
      refine EL_gite 38 rfl rfl rfl (.int .i64 c) rfl (fun g27 => r_move rfl) ?_
      refine EL_gite 38 rfl rfl rfl (.bool (decide (4294967295 < c))) rfl (fun g28 => r_gtr (cond_of g28 rfl) rfl) ?_
      refine EL_val (.bool ((((decide ((k.length : Int) ≠ 32)) || (decide ((n.length : Int) ≠ 12))) || (decide (c < 0))) || (decide (4294967295 < c)))) w11 rfl (r_or rfl rfl rfl) ?_
      refine EL_nil ?_
      refine thn_n ?_
      refine EC_cond_true (Eq.trans (show _ = Value.bool ((((decide ((k.length : Int) ≠ 32)) || (decide ((n.length : Int) ≠ 12))) || (decide (c < 0))) || (decide (4294967295 < c))) from rfl) (congrArg Value.bool (show ((((decide ((k.length : Int) ≠ 32)) || (decide ((n.length : Int) ≠ 12))) || (decide (c < 0))) || (decide (4294967295 < c))) = true from by simp; omega))) ?_
      refine EC_seq ?_
      refine EC_reg ?_
      refine EL_val (.int .i64 12) w11 rfl (r_move rfl) ?_
      refine EL_val (.bool true) w11 rfl (r_dec (by decide) (r_neq rfl rfl)) ?_
      refine EL_val (.bool true) w11 rfl (r_move rfl) ?_
      refine EL_gval 44 rfl rfl rfl rfl (.slice none 0 0) w11 rfl (r_move rfl) ?_
      refine EL_gval 44 rfl rfl rfl rfl (.int .i64 (([] : List UInt8).length : Int)) w11 rfl (lenB (r_len rfl (Row.nil _) Try.underlying22)) ?_
      refine EL_gval 44 rfl rfl rfl rfl (.bool true) w11 rfl (r_dec (show (decide ((([] : List UInt8).length : Int) = 0)) = true from by simp) (r_eql rfl rfl)) ?_
      refine EL_val (.bool true) w11 rfl (r_pickT rfl rfl) ?_
      refine EL_val (.bool true) w11 rfl (r_assign rfl) ?_
      refine EL_nil ?_
      refine thn_n ?_
      refine EC_ret ?_
      refine thn_r ?_
      refine fin1 Try.results4 (show _ = .bool true from rfl) ⟨_, rfl, ?_⟩
      exact ⟨rfl, B13⟩
    · refine EC_reg ?_
      refine EL_val v0 w11 rfl (r_move rfl) ?_
      refine EL_val (.int .i64 c) w11 rfl (r_move rfl) ?_
      refine EL_val v1 w11 rfl (r_move rfl) ?_
      refine EL_val v2 w11 rfl (r_move rfl) ?_
      have L32 := xo_len k c n t
      refine EL_ret [v0, .int .i64 c, v1, v2] rfl Try.func12 rfl nm12 rfl (XOR_ok v0 k c v1 n v2 t w11 (H0.below B13) (H1.below B13) (H2.below B13) he (by first | omega | (simp; done) | (simp; omega))) ?_
      rintro _ w33 ⟨p29, rfl, O30, B31⟩
      have B34 : Below w.heap.size w w33 := below_full B13 B13.size B31
      have B35 : Below w11.heap.size w11 w33 := B31
      refine EL_val (.tuple #[p29, .int .i64 0]) w33 rfl (r_move rfl) ?_
      refine EL_val p29 w33 rfl (r_extract rfl rfl) ?_
      refine EL_val (.int .i64 0) w33 rfl (r_extract rfl rfl) ?_
      refine EL_val p29 w33 rfl (r_assign rfl) ?_
      refine EL_val (.int .i64 0) w33 rfl (r_assign rfl) ?_
      refine EL_nil ?_
      refine thn_n ?_
      refine EC_seq ?_
      refine EC_seq ?_
      refine EC_reg ?_
      refine EL_val v0 w33 rfl (r_move rfl) ?_
      refine EL_val (.int .i64 (k.length : Int)) w33 rfl (lenB (r_len rfl (H0.below B34) Try.underlying22)) ?_
      refine EL_val (.bool (decide ((k.length : Int) ≠ 32))) w33 rfl (r_neq rfl rfl) ?_
      refine EL_val (.bool (decide ((k.length : Int) ≠ 32))) w33 rfl (r_move rfl) ?_
      refine EL_gite 29 rfl rfl rfl v1 rfl (fun g36 => r_move rfl) ?_
      refine EL_gite 29 rfl rfl rfl (.int .i64 (n.length : Int)) rfl (fun g37 => lenB (r_len (cond_of g37 rfl) (H1.below B34) Try.underlying22)) ?_
      refine EL_gite 29 rfl rfl rfl (.bool (decide ((n.length : Int) ≠ 12))) rfl (fun g38 => r_neq (cond_of g38 rfl) rfl) ?_
      refine EL_val (.bool ((decide ((k.length : Int) ≠ 32)) || (decide ((n.length : Int) ≠ 12)))) w33 rfl (r_or rfl rfl rfl) ?_
      refine EL_val (.bool ((decide ((k.length : Int) ≠ 32)) || (decide ((n.length : Int) ≠ 12)))) w33 rfl (r_move rfl) ?_
      refine EL_gite 34 rfl rfl rfl (.int .i64 c) rfl (fun g39 => r_move rfl) ?_
      refine EL_gite 34 rfl rfl rfl (.bool (decide (c < 0))) rfl (fun g40 => r_lss (cond_of g40 rfl) rfl) ?_
      refine EL_val (.bool (((decide ((k.length : Int) ≠ 32)) || (decide ((n.length : Int) ≠ 12))) || (decide (c < 0)))) w33 rfl (r_or rfl rfl rfl) ?_
      refine EL_val (.bool (((decide ((k.length : Int) ≠ 32)) || (decide ((n.length : Int) ≠ 12))) || (decide (c < 0)))) w33 rfl (r_move rfl) ?_
      refine EL_gite 38 rfl rfl rfl (.int .i64 c) rfl (fun g41 => r_move rfl) ?_
      refine EL_gite 38 rfl rfl rfl (.bool (decide (4294967295 < c))) rfl (fun g42 => r_gtr (cond_of g42 rfl) rfl) ?_
      refine EL_val (.bool ((((decide ((k.length : Int) ≠ 32)) || (decide ((n.length : Int) ≠ 12))) || (decide (c < 0))) || (decide (4294967295 < c)))) w33 rfl (r_or rfl rfl rfl) ?_
      refine EL_nil ?_
      refine thn_n ?_
      refine EC_cond_false (Eq.trans (show _ = Value.bool ((((decide ((k.length : Int) ≠ 32)) || (decide ((n.length : Int) ≠ 12))) || (decide (c < 0))) || (decide (4294967295 < c))) from rfl) (congrArg Value.bool (show ((((decide ((k.length : Int) ≠ 32)) || (decide ((n.length : Int) ≠ 12))) || (decide (c < 0))) || (decide (4294967295 < c))) = false from by simp; omega))) ?_
      refine EC_skip ?_
      refine thn_n ?_
      refine EC_seq ?_
      refine EC_reg ?_
      refine EL_val v0 w33 rfl (r_move rfl) ?_
      refine EL_val (.int .i64 c) w33 rfl (r_move rfl) ?_
      refine EL_val v1 w33 rfl (r_move rfl) ?_
      refine EL_val p29 w33 rfl (r_move rfl) ?_
      have L46 := xo_len k c n (xo k c n t)
      refine EL_ret [v0, .int .i64 c, v1, p29] rfl Try.func12 rfl nm12 rfl (XOR_ok v0 k c v1 n p29 (xo k c n t) w33 (H0.below B34) (H1.below B34) (own_row O30) he (by first | omega | (simp; done) | (simp; omega))) ?_
      rintro _ w47 ⟨p43, rfl, O44, B45⟩
      have B48 : Below w.heap.size w w47 := below_full B34 B34.size B45
      have B49 : Below w11.heap.size w11 w47 := below_full B35 B35.size B45
      have B50 : Below w33.heap.size w33 w47 := B45
      refine EL_val (.tuple #[p43, .int .i64 0]) w47 rfl (r_move rfl) ?_
      refine EL_val p43 w47 rfl (r_extract rfl rfl) ?_
      refine EL_val (.int .i64 0) w47 rfl (r_extract rfl rfl) ?_
      refine EL_val p43 w47 rfl (r_assign rfl) ?_
      refine EL_val (.int .i64 0) w47 rfl (r_assign rfl) ?_
      refine EL_nil ?_
      refine thn_n ?_
      refine EC_seq ?_
      refine EC_held (fun w' => Below w47.heap.size w47 w') (by kernel_rfl) ?_
      intro w51 B52 z53
      have B54 : Below w.heap.size w w51 := below_full B48 B48.size B52
      have B55 : Below w11.heap.size w11 w51 := below_full B49 B49.size B52
      have B56 : Below w33.heap.size w33 w51 := below_full B50 B50.size B52
      have B57 : Below w47.heap.size w47 w51 := B52
      refine EA_strong (fun w' => Below w51.heap.size w51 w') (fun _ hw => below_full B57 B57.size hw) ?_
      refine EA_take 0 rfl (by kernel_rfl) (by kernel_rfl) (by kernel_rfl) (.int .i64 0) rfl (fun _ hw => r_move rfl) (Below.refl _ _) ?_
      refine EA_take 1 rfl (by kernel_rfl) (by kernel_rfl) (by kernel_rfl) (.bool true) rfl (fun _ hw => r_dec (by decide) (r_eql rfl rfl)) (Below.refl _ _) ?_
      refine EA_take 2 rfl (by kernel_rfl) (by kernel_rfl) (by kernel_rfl) (.bool true) rfl (fun _ hw => r_move rfl) (Below.refl _ _) ?_
      refine EA_gtake 3 rfl (by kernel_rfl) (by kernel_rfl) (by kernel_rfl) 59 rfl rfl rfl rfl (.int .i64 0) rfl (fun _ hw => r_move rfl) (Below.refl _ _) ?_
      refine EA_gtake 4 rfl (by kernel_rfl) (by kernel_rfl) (by kernel_rfl) 59 rfl rfl rfl rfl (.bool true) rfl (fun _ hw => r_dec (by decide) (r_eql rfl rfl)) (Below.refl _ _) ?_
      refine EA_take 5 rfl (by kernel_rfl) (by kernel_rfl) (by kernel_rfl) (.bool true) rfl (fun _ hw => r_pickT rfl rfl) (Below.refl _ _) ?_
      refine EA_take 6 rfl (by kernel_rfl) (by kernel_rfl) (by kernel_rfl) (.bool true) rfl (fun _ hw => r_move rfl) (Below.refl _ _) ?_
      refine EA_gtake 7 rfl (by kernel_rfl) (by kernel_rfl) (by kernel_rfl) 63 rfl rfl rfl rfl p29 rfl (fun _ hw => r_move rfl) (Below.refl _ _) ?_
      refine EA_gtake 8 rfl (by kernel_rfl) (by kernel_rfl) (by kernel_rfl) 63 rfl rfl rfl rfl (.string (str (xo k c n t))) rfl (fun _ hw => r_str rfl (((own_row O30).below B56).below hw) Try.underlying22 Try.underlying5 Try.underlying9) (Below.refl _ _) ?_
      refine EA_gtake 9 rfl (by kernel_rfl) (by kernel_rfl) (by kernel_rfl) 63 rfl rfl rfl rfl v0 rfl (fun _ hw => r_move rfl) (Below.refl _ _) ?_
      refine EA_gtake 10 rfl (by kernel_rfl) (by kernel_rfl) (by kernel_rfl) 63 rfl rfl rfl rfl (.int .i64 c) rfl (fun _ hw => r_move rfl) (Below.refl _ _) ?_
      refine EA_gtake 11 rfl (by kernel_rfl) (by kernel_rfl) (by kernel_rfl) 63 rfl rfl rfl rfl v1 rfl (fun _ hw => r_move rfl) (Below.refl _ _) ?_
      refine EA_gtake 12 rfl (by kernel_rfl) (by kernel_rfl) (by kernel_rfl) 63 rfl rfl rfl rfl v2 rfl (fun _ hw => r_move rfl) (Below.refl _ _) ?_
      refine EA_call 13 rfl (by kernel_rfl) [v0, .int .i64 c, v1, v2] (.inr ⟨_, _, 63, rfl, rfl, rfl, rfl⟩) rfl Try.func13 rfl nm13 rfl (rXOR_c v0 k c v1 n v2 t w51 (H0.below B54) (H1.below B54) (H2.below B54) (by omega) (by omega) (by omega) (by omega)) ?_
      rintro p58 w61 ⟨O59, B60⟩
      have B62 : Below w.heap.size w w61 := below_full B54 B54.size B60
      have B63 : Below w11.heap.size w11 w61 := below_full B55 B55.size B60
      have B64 : Below w33.heap.size w33 w61 := below_full B56 B56.size B60
      have B65 : Below w47.heap.size w47 w61 := below_full B57 B57.size B60
      have B66 : Below w51.heap.size w51 w61 := B60
      refine ⟨B66, ?_⟩
      refine EA_strong (fun w' => Below w61.heap.size w61 w') (fun _ hw => below_full B66 B66.size hw) ?_
      refine EA_gtake 14 rfl (by kernel_rfl) (by kernel_rfl) (by kernel_rfl) 63 rfl rfl rfl rfl (.string (str (xo k c n t))) rfl (fun _ hw => r_str rfl ((own_row O59).below hw) Try.underlying22 Try.underlying5 Try.underlying9) (Below.refl _ _) ?_
      refine EA_gtake 15 rfl (by kernel_rfl) (by kernel_rfl) (by kernel_rfl) 63 rfl rfl rfl rfl (.bool true) rfl (fun _ hw => r_dec (show (decide ((xo k c n t) = (xo k c n t))) = true from by simp) (r_eqls rfl rfl)) (Below.refl _ _) ?_
      refine EA_take 16 rfl (by kernel_rfl) (by kernel_rfl) (by kernel_rfl) (.bool true) rfl (fun _ hw => r_pickT rfl rfl) (Below.refl _ _) ?_
      refine EA_take 17 rfl (by kernel_rfl) (by kernel_rfl) (by kernel_rfl) (.bool true) rfl (fun _ hw => r_move rfl) (Below.refl _ _) ?_
      refine EA_gtake 18 rfl (by kernel_rfl) (by kernel_rfl) (by kernel_rfl) 74 rfl rfl rfl rfl p43 rfl (fun _ hw => r_move rfl) (Below.refl _ _) ?_
      refine EA_gtake 19 rfl (by kernel_rfl) (by kernel_rfl) (by kernel_rfl) 74 rfl rfl rfl rfl (.string (str (xo k c n (xo k c n t)))) rfl (fun _ hw => r_str rfl (((own_row O44).below B65).below hw) Try.underlying22 Try.underlying5 Try.underlying9) (Below.refl _ _) ?_
      refine EA_gtake 20 rfl (by kernel_rfl) (by kernel_rfl) (by kernel_rfl) 74 rfl rfl rfl rfl v2 rfl (fun _ hw => r_move rfl) (Below.refl _ _) ?_
      refine EA_gtake 21 rfl (by kernel_rfl) (by kernel_rfl) (by kernel_rfl) 74 rfl rfl rfl rfl (.string (str t)) rfl (fun _ hw => r_str rfl ((H2.below B62).below hw) Try.underlying22 Try.underlying5 Try.underlying9) (Below.refl _ _) ?_
      refine EA_gtake 22 rfl (by kernel_rfl) (by kernel_rfl) (by kernel_rfl) 74 rfl rfl rfl rfl (.bool true) rfl (fun _ hw => r_dec (show (decide ((xo k c n (xo k c n t)) = t)) = true from by rw [xo_xo]; simp) (r_eqls rfl rfl)) (Below.refl _ _) ?_
      refine EA_take 23 rfl (by kernel_rfl) (by kernel_rfl) (by kernel_rfl) (.bool true) rfl (fun _ hw => r_pickT rfl rfl) (Below.refl _ _) ?_
      refine EA_take 24 rfl (by kernel_rfl) (by kernel_rfl) (by kernel_rfl) (.bool true) rfl (fun _ hw => r_assign rfl) (Below.refl _ _) ?_
      refine EA_done (by kernel_rfl) ?_
      refine thn_n ?_
      refine EC_ret ?_
      refine fin1 Try.results4 (show _ = .bool true from rfl) ⟨_, rfl, ?_⟩
      exact ⟨rfl, B62⟩
theorem own : ownKnob Try.prog.godebug = none := by kernel_rfl
theorem laidOut : laidOutB Try.prog = true := by kernel_rfl
set_option maxRecDepth 100000 in
theorem lifted (os : Os) (started : os.Started) (H : Type) (enc : TypeId × Value → H) :
    ReturnsInHanded {} Try.checked os 4 .any (Rows.chachaTextsSpec.pre6 enc Try.prog Try.f4 Rows.chachaTextsRow.domain false) (Rows.chachaTextsSpec.post enc Try.prog Try.f4 false true false false) := by
  refine returnsInHanded_of_change (C := Try.checked) own started (by kernel_rfl) Try.func4
    (ChangeSpec.witness6 (enc := enc) (C := Try.checked) false ⟨#[], #[.slice none 0 0, .int .i64 0, .slice none 0 0, .slice none 0 0], []⟩ 8 (by kernel_rfl) (by kernel_rfl) (by kernel_rfl) (by kernel_rfl)) ?_
  intro W base args ds gs before hval0 hW hcnd _
  have hval : ∀ (j : Nat) t v, Try.f4.params[j]? = some t → args[j]? = some v → Value.okWide Try.prog W .any base t v := hval0
  have hW' := hW
  obtain ⟨p, q, hA0, hV, rfl, hfz, hnd⟩ := hW
  have hA : DataW.TrodAll enc Try.prog W 0 (fun _ => true) true Try.f4.params.toList args.toList ds p := hA0
  rw [Try.params4] at hA hval
  obtain ⟨v0, vs0, d0, ds0, p0, q0, hargs, rfl, rfl, h0, r0⟩ := trodAll_cons hA
  obtain ⟨v1, vs1, d1, ds1, p1, q1, rfl, rfl, rfl, h1, r1⟩ := trodAll_cons r0
  obtain ⟨v2, vs2, d2, ds2, p2, q2, rfl, rfl, rfl, h2, r2⟩ := trodAll_cons r1
  obtain ⟨v3, vs3, d3, ds3, p3, q3, rfl, rfl, rfl, h3, r3⟩ := trodAll_cons r2
  obtain ⟨rfl, rfl, rfl⟩ := trodAll_nil r3
  obtain rfl : args = #[v0, v1, v2, v3] := by cases args; simp_all
  obtain ⟨rfl, rfl⟩ := trodVars_none hV
  have k0 := h0
  have lt0 : ∀ x ∈ p0, x.block < W.heap.size := by obtain ⟨m, hm⟩ := k0; exact DataW.trod_lt m _ _ _ hm
  obtain ⟨a0, len0, cap0, rfl⟩ := okWide_slice Try.underlying22 (hval 0 22 v0 rfl rfl)
  obtain ⟨b0, H0⟩ : ∃ l, Bs W (.slice a0 len0 cap0) l := by
    obtain ⟨fuel, hf⟩ := h0
    rcases open_ints Try.underlying22 Try.underlying5 (by kernel_rfl) hf with ⟨hcs, _⟩ | ⟨x, l, c, zs, hcs, _, hl, hm, hz, _, hcell, hwz⟩
    · simp [Value.cells] at hcs
      obtain ⟨rfl, rfl, rfl⟩ := hcs
      exact ⟨[], Row.nil W⟩
    · simp [Value.cells] at hcs
      obtain ⟨rfl, rfl, rfl⟩ := hcs
      exact bs_open hl hm (by simpa using hz) hcell hwz
  have k1 := h1
  have lt1 : ∀ x ∈ p1, x.block < W.heap.size := by obtain ⟨m, hm⟩ := k1; exact DataW.trod_lt m _ _ _ hm
  obtain ⟨a1, rfl, rfl, rfl, w1⟩ := open_int Try.underlying3 (hval 1 3 v1 rfl rfl) h1
  have k2 := h2
  have lt2 : ∀ x ∈ p2, x.block < W.heap.size := by obtain ⟨m, hm⟩ := k2; exact DataW.trod_lt m _ _ _ hm
  obtain ⟨a2, len2, cap2, rfl⟩ := okWide_slice Try.underlying22 (hval 2 22 v2 rfl rfl)
  obtain ⟨b2, H2⟩ : ∃ l, Bs W (.slice a2 len2 cap2) l := by
    obtain ⟨fuel, hf⟩ := h2
    rcases open_ints Try.underlying22 Try.underlying5 (by kernel_rfl) hf with ⟨hcs, _⟩ | ⟨x, l, c, zs, hcs, _, hl, hm, hz, _, hcell, hwz⟩
    · simp [Value.cells] at hcs
      obtain ⟨rfl, rfl, rfl⟩ := hcs
      exact ⟨[], Row.nil W⟩
    · simp [Value.cells] at hcs
      obtain ⟨rfl, rfl, rfl⟩ := hcs
      exact bs_open hl hm (by simpa using hz) hcell hwz
  have k3 := h3
  have lt3 : ∀ x ∈ p3, x.block < W.heap.size := by obtain ⟨m, hm⟩ := k3; exact DataW.trod_lt m _ _ _ hm
  obtain ⟨a3, len3, cap3, rfl⟩ := okWide_slice Try.underlying22 (hval 3 22 v3 rfl rfl)
  obtain ⟨b3, H3⟩ : ∃ l, Bs W (.slice a3 len3 cap3) l := by
    obtain ⟨fuel, hf⟩ := h3
    rcases open_ints Try.underlying22 Try.underlying5 (by kernel_rfl) hf with ⟨hcs, _⟩ | ⟨x, l, c, zs, hcs, _, hl, hm, hz, _, hcell, hwz⟩
    · simp [Value.cells] at hcs
      obtain ⟨rfl, rfl, rfl⟩ := hcs
      exact ⟨[], Row.nil W⟩
    · simp [Value.cells] at hcs
      obtain ⟨rfl, rfl, rfl⟩ := hcs
      exact bs_open hl hm (by simpa using hz) hcell hwz
  clear hA0 hval0
  refine Calls.mono (ChachaTexts_c (.slice a0 len0 cap0) b0 a1 (.slice a2 len2 cap2) b2 (.slice a3 len3 cap3) b3 W H0 (rng_i64 w1) H2 H3) fun e W' ⟨v', he, hv, bel⟩ => ?_
  subst he
  subst hv
  exact ⟨_, rfl, _, _, _, [], _, [], hW', trodAll_mk1 (shut_bool Try.underlying4 _), (trodAll_cons_mk (Below.trod laidOut (by kernel_rfl) (of_decide_eq_true (by kernel_rfl)) k0 bel lt0) (trodAll_cons_mk (Below.trod laidOut (by kernel_rfl) (of_decide_eq_true (by kernel_rfl)) k1 bel lt1) (trodAll_cons_mk (Below.trod laidOut (by kernel_rfl) (of_decide_eq_true (by kernel_rfl)) k2 bel lt2) (trodAll_cons_mk (Below.trod laidOut (by kernel_rfl) (of_decide_eq_true (by kernel_rfl)) k3 bel lt3) trodAll_mk0)))), rfl, bel.frame _, fun h => by cases h⟩
theorem over : Rows.chachaTextsRow.holds Try.pinned (OpenSpec.ofChange Rows.chachaTextsSpec) :=
  OpenClaim.holds_of_wide 4 Try.f4 rfl rfl rfl rfl rfl rfl rfl ⟨rfl, rfl, rfl, rfl, rfl⟩ rfl rfl rfl rfl rfl (by kernel_rfl) Try.func4 (by kernel_rfl)
    (of_decide_eq_true (by kernel_rfl)) (by unfold Func.isWrapper; first | (rw [if_pos (by decide +kernel)]; kernel_rfl) | (rw [if_neg (by decide +kernel)]; exact ⟨rfl, rfl⟩))
    (fun os started H enc _ => lifted os started H enc)
end Go.Proofs.Ytanlbploeifhpaa.chachaTexts
namespace Go.Proofs.Ytanlbploeifhpaa
theorem ChachaTexts_holds : Rows.ChachaTextsSaid := chachaTexts.over
end Go.Proofs.Ytanlbploeifhpaa
