/-
  Any bytes are the box of a text just if the document says so.
  Its conditions: none: whatever the input, in whatever memory.
-/
import Derived.Test.YtlhaojpkejpgfaaRows
import Derived.Test.YtlhaojpkejpgfaaWalksC
import Derived.ProofKit
import Derived.OpenShut
import Derived.ShutString
import Derived.ChangeOld
set_option linter.unusedVariables false
set_option linter.unusedSimpArgs false
namespace Go.Proofs.Ytlhaojpkejpgfaa.aeadOpens
open Go.ChangeShapes Go.WideShapes Go.ChangeAt Go.RowKit Go.Ecal
open Go.ChangeMaps (open_string shut_string)
theorem three (k n o t : List UInt8) : (k.length ≠ 32 ∨ n.length ≠ 12) ∨ ((k.length = 32 ∧ n.length = 12) ∧ isbox k n o t = true) ∨ ((k.length = 32 ∧ n.length = 12) ∧ isbox k n o t = false) := by
  by_cases h : k.length ≠ 32 ∨ n.length ≠ 12
  · exact .inl h
  · cases hc : isbox k n o t
    · exact .inr (.inr ⟨by omega, rfl⟩)
    · exact .inr (.inl ⟨by omega, rfl⟩)
set_option maxRecDepth 100000 in
set_option maxHeartbeats 4000000 in
theorem AeadOpens_c (v0 : Value) (k : List UInt8) (v1 : Value) (n : List UInt8) (v2 : Value) (o : List UInt8) (v3 : Value) (t : List UInt8) (w : World) (H0 : Bs w v0 k) (H1 : Bs w v1 n) (H2 : Bs w v2 o) (H3 : Bs w v3 t) : Ret Try.prog 4 [v0, v1, v2, v3] w fun v w' => v = .bool true ∧ Below w.heap.size w w' := by
  refine ret_E Try.func4 rfl Try.ntmps4 (by simp) ?_
  refine EC_seq ?_
  refine EC_reg ?_
  refine EL_val (.bool false) w rfl (r_assign rfl) ?_
  refine EL_nil ?_
  refine thn_n ?_
  refine EC_seq ?_
  refine EC_seq ?_
  refine EC_reg ?_
  refine EL_ret [] rfl Try.func9 rfl nm9 rfl (anchor_c w) ?_
  rintro _ w11 ⟨rfl, B12⟩
  have B13 : Below w.heap.size w w11 := B12
  refine EL_val (.bool false) w11 rfl (r_dec (show (!true) = false from rfl) (r_not rfl)) ?_
  refine EL_nil ?_
  refine thn_n ?_
  refine EC_cond_false rfl ?_
  refine EC_skip ?_
  refine thn_n ?_
  refine EC_seq ?_
  refine EC_seq ?_
  refine EC_reg ?_
  refine EL_val v2 w11 rfl (r_move rfl) ?_
  refine EL_val (.int .i64 (o.length : Int)) w11 rfl (lenB (r_len rfl (H2.below B13) Try.underlying22)) ?_
  refine EL_val (.bool (decide (100 < (o.length : Int)))) w11 rfl (r_gtr rfl rfl) ?_
  refine EL_val (.bool (decide (100 < (o.length : Int)))) w11 rfl (r_move rfl) ?_
  refine EL_gite 18 rfl rfl rfl v3 rfl (fun g14 => r_move rfl) ?_
  refine EL_gite 18 rfl rfl rfl (.int .i64 (t.length : Int)) rfl (fun g15 => lenB (r_len (cond_of g15 rfl) (H3.below B13) Try.underlying22)) ?_
  refine EL_gite 18 rfl rfl rfl (.bool (decide (200 < (t.length : Int)))) rfl (fun g16 => r_gtr (cond_of g16 rfl) rfl) ?_
  refine EL_val (.bool ((decide (100 < (o.length : Int))) || (decide (200 < (t.length : Int))))) w11 rfl (r_or rfl rfl rfl) ?_
  refine EL_nil ?_
  refine thn_n ?_
  refine EC_cond (t := (decide (100 < (o.length : Int))) || (decide (200 < (t.length : Int)))) rfl (fun h17 => ?_) (fun h17 => ?_)
  · simp at h17
    refine EC_seq ?_
    refine EC_reg ?_
    refine EL_val (.bool true) w11 rfl (r_assign rfl) ?_
    refine EL_nil ?_
    refine thn_n ?_
    refine EC_ret ?_
    refine thn_r ?_
    refine fin1 Try.results4 (show _ = .bool true from rfl) ⟨_, rfl, ?_⟩
    exact ⟨rfl, B13⟩
  · simp at h17
    refine EC_skip ?_
    refine thn_n ?_
    refine EC_seq ?_
    rcases three k n o t with hno | ⟨⟨hk, hn⟩, hb⟩ | ⟨⟨hk, hn⟩, hb⟩
    · refine EC_reg ?_
      refine EL_val v0 w11 rfl (r_move rfl) ?_
      refine EL_val v1 w11 rfl (r_move rfl) ?_
      refine EL_val v2 w11 rfl (r_move rfl) ?_
      refine EL_val v3 w11 rfl (r_move rfl) ?_
      refine EL_ret [v0, v1, v2, v3] rfl Try.func12 rfl nm12 rfl (Open_no v0 k v1 n v2 o v3 t w11 (H0.below B13) (H1.below B13) (H2.below B13) (H3.below B13) hno (by first | omega | (simp; done) | (simp; omega)) (by first | omega | (simp; done) | (simp; omega))) ?_
      rintro _ _ ⟨rfl, rfl⟩
      refine EL_val (.tuple #[.slice none 0 0, .int .i64 11]) w11 rfl (r_move rfl) ?_
      refine EL_val (.slice none 0 0) w11 rfl (r_extract rfl rfl) ?_
      refine EL_val (.int .i64 11) w11 rfl (r_extract rfl rfl) ?_
      refine EL_val (.slice none 0 0) w11 rfl (r_assign rfl) ?_
      refine EL_val (.int .i64 11) w11 rfl (r_assign rfl) ?_
      refine EL_nil ?_
      refine thn_n ?_
      refine EC_seq ?_
      refine EC_seq ?_
      refine EC_reg ?_
      refine EL_val v0 w11 rfl (r_move rfl) ?_
      refine EL_val (.int .i64 (k.length : Int)) w11 rfl (lenB (r_len rfl (H0.below B13) Try.underlying22)) ?_
      refine EL_val (.bool (decide ((k.length : Int) ≠ 32))) w11 rfl (r_neq rfl rfl) ?_
      refine EL_val (.bool (decide ((k.length : Int) ≠ 32))) w11 rfl (r_move rfl) ?_
      refine EL_gite 34 rfl rfl rfl v1 rfl (fun g18 => r_move rfl) ?_
      refine EL_gite 34 rfl rfl rfl (.int .i64 (n.length : Int)) rfl (fun g19 => lenB (r_len (cond_of g19 rfl) (H1.below B13) Try.underlying22)) ?_
      refine EL_gite 34 rfl rfl rfl (.bool (decide ((n.length : Int) ≠ 12))) rfl (fun g20 => r_neq (cond_of g20 rfl) rfl) ?_
      refine EL_val (.bool ((decide ((k.length : Int) ≠ 32)) || (decide ((n.length : Int) ≠ 12)))) w11 rfl (r_or rfl rfl rfl) ?_
      refine EL_nil ?_
      refine thn_n ?_
      refine EC_cond_true (Eq.trans (show _ = Value.bool ((decide ((k.length : Int) ≠ 32)) || (decide ((n.length : Int) ≠ 12))) from rfl) (congrArg Value.bool (show ((decide ((k.length : Int) ≠ 32)) || (decide ((n.length : Int) ≠ 12))) = true from by simp; omega))) ?_
      refine EC_seq ?_
      refine EC_reg ?_
      refine EL_val (.int .i64 11) w11 rfl (r_move rfl) ?_
      refine EL_val (.bool true) w11 rfl (r_dec (by decide) (r_eql rfl rfl)) ?_
      refine EL_val (.bool true) w11 rfl (r_move rfl) ?_
      refine EL_gval 41 rfl rfl rfl rfl (.slice none 0 0) w11 rfl (r_move rfl) ?_
      refine EL_gval 41 rfl rfl rfl rfl (.int .i64 0) w11 rfl (r_asn (show ((([] : List UInt8).length : Nat) : Int) = 0 from rfl) (lenB (r_len rfl (Row.nil _) Try.underlying22))) ?_
      refine EL_gval 41 rfl rfl rfl rfl (.bool true) w11 rfl (r_dec (by decide) (r_eql rfl rfl)) ?_
      refine EL_val (.bool true) w11 rfl (r_pickT rfl rfl) ?_
      refine EL_val (.bool true) w11 rfl (r_assign rfl) ?_
      refine EL_nil ?_
      refine thn_n ?_
      refine EC_ret ?_
      refine thn_r ?_
      refine fin1 Try.results4 (show _ = .bool true from rfl) ⟨_, rfl, ?_⟩
      exact ⟨rfl, B13⟩
    · refine EC_reg ?_
      refine EL_val v0 w11 rfl (r_move rfl) ?_
      refine EL_val v1 w11 rfl (r_move rfl) ?_
      refine EL_val v2 w11 rfl (r_move rfl) ?_
      refine EL_val v3 w11 rfl (r_move rfl) ?_
      have L24 := xo_len k 1 n (t.take (t.length - 16))
      refine EL_ret [v0, v1, v2, v3] rfl Try.func12 rfl nm12 rfl (Open_ok v0 k v1 n v2 o v3 t w11 (H0.below B13) (H1.below B13) (H2.below B13) (H3.below B13) (by first | omega | (simp; done) | (simp; omega)) (by first | omega | (simp; done) | (simp; omega)) (by first | omega | (simp; done) | (simp; omega)) (by first | omega | (rw [box_len]; decide) | (simp; done) | (simp; omega)) hb) ?_
      rintro _ w25 ⟨p21, rfl, O22, B23⟩
      have B26 : Below w.heap.size w w25 := below_full B13 B13.size B23
      have B27 : Below w11.heap.size w11 w25 := B23
      refine EL_val (.tuple #[p21, .int .i64 0]) w25 rfl (r_move rfl) ?_
      refine EL_val p21 w25 rfl (r_extract rfl rfl) ?_
      refine EL_val (.int .i64 0) w25 rfl (r_extract rfl rfl) ?_
      refine EL_val p21 w25 rfl (r_assign rfl) ?_
      refine EL_val (.int .i64 0) w25 rfl (r_assign rfl) ?_
      refine EL_nil ?_
      refine thn_n ?_
      refine EC_seq ?_
      refine EC_seq ?_
      refine EC_reg ?_
      refine EL_val v0 w25 rfl (r_move rfl) ?_
      refine EL_val (.int .i64 (k.length : Int)) w25 rfl (lenB (r_len rfl (H0.below B26) Try.underlying22)) ?_
      refine EL_val (.bool (decide ((k.length : Int) ≠ 32))) w25 rfl (r_neq rfl rfl) ?_
      refine EL_val (.bool (decide ((k.length : Int) ≠ 32))) w25 rfl (r_move rfl) ?_
      refine EL_gite 34 rfl rfl rfl v1 rfl (fun g28 => r_move rfl) ?_
      refine EL_gite 34 rfl rfl rfl (.int .i64 (n.length : Int)) rfl (fun g29 => lenB (r_len (cond_of g29 rfl) (H1.below B26) Try.underlying22)) ?_
      refine EL_gite 34 rfl rfl rfl (.bool (decide ((n.length : Int) ≠ 12))) rfl (fun g30 => r_neq (cond_of g30 rfl) rfl) ?_
      refine EL_val (.bool ((decide ((k.length : Int) ≠ 32)) || (decide ((n.length : Int) ≠ 12)))) w25 rfl (r_or rfl rfl rfl) ?_
      refine EL_nil ?_
      refine thn_n ?_
      refine EC_cond_false (Eq.trans (show _ = Value.bool ((decide ((k.length : Int) ≠ 32)) || (decide ((n.length : Int) ≠ 12))) from rfl) (congrArg Value.bool (show ((decide ((k.length : Int) ≠ 32)) || (decide ((n.length : Int) ≠ 12))) = false from by simp; omega))) ?_
      refine EC_skip ?_
      refine thn_n ?_
      refine EC_seq ?_
      refine EC_reg ?_
      refine EL_val v0 w25 rfl (r_move rfl) ?_
      refine EL_val v1 w25 rfl (r_move rfl) ?_
      refine EL_val v2 w25 rfl (r_move rfl) ?_
      refine EL_val v3 w25 rfl (r_move rfl) ?_
      refine EL_ret [v0, v1, v2, v3] rfl Try.func13 rfl nm13 rfl (rOpen_ok v0 k v1 n v2 o v3 t w25 (H0.below B26) (H1.below B26) (H2.below B26) (H3.below B26) (by first | omega | (simp; done) | (simp; omega)) (by first | omega | (simp; done) | (simp; omega)) (by first | omega | (simp; done) | (simp; omega)) (by first | omega | (simp; done) | (simp; omega)) hb) ?_
      rintro _ w34 ⟨p31, rfl, O32, B33⟩
      have B35 : Below w.heap.size w w34 := below_full B26 B26.size B33
      have B36 : Below w11.heap.size w11 w34 := below_full B27 B27.size B33
      have B37 : Below w25.heap.size w25 w34 := B33
      refine EL_val (.tuple #[p31, .bool true]) w34 rfl (r_move rfl) ?_
      refine EL_val p31 w34 rfl (r_extract rfl rfl) ?_
      refine EL_val (.bool true) w34 rfl (r_extract rfl rfl) ?_
      refine EL_val p31 w34 rfl (r_assign rfl) ?_
      refine EL_val (.bool true) w34 rfl (r_assign rfl) ?_
      refine EL_nil ?_
      refine thn_n ?_
      refine EC_seq ?_
      refine EC_seq ?_
      refine EC_reg ?_
      refine EL_val (.bool true) w34 rfl (r_move rfl) ?_
      refine EL_val (.bool false) w34 rfl (r_dec (show (!true) = false from rfl) (r_not rfl)) ?_
      refine EL_nil ?_
      refine thn_n ?_
      refine EC_cond_false rfl ?_
      refine EC_skip ?_
      refine thn_n ?_
      refine EC_seq ?_
      refine EC_reg ?_
      refine EL_val (.int .i64 0) w34 rfl (r_move rfl) ?_
      refine EL_val (.bool true) w34 rfl (r_dec (by decide) (r_eql rfl rfl)) ?_
      refine EL_val (.bool true) w34 rfl (r_move rfl) ?_
      refine EL_gval 65 rfl rfl rfl rfl p21 w34 rfl (r_move rfl) ?_
      refine EL_gval 65 rfl rfl rfl rfl (.string (str (xo k 1 n (t.take (t.length - 16))))) w34 rfl (r_str rfl ((own_row O22).below B37) Try.underlying22 Try.underlying5 Try.underlying9) ?_
      refine EL_gval 65 rfl rfl rfl rfl p31 w34 rfl (r_move rfl) ?_
      refine EL_gval 65 rfl rfl rfl rfl (.string (str (xo k 1 n (t.take (t.length - 16))))) w34 rfl (r_str rfl (own_row O32) Try.underlying22 Try.underlying5 Try.underlying9) ?_
      refine EL_gval 65 rfl rfl rfl rfl (.bool true) w34 rfl (r_dec (show (decide ((xo k 1 n (t.take (t.length - 16))) = (xo k 1 n (t.take (t.length - 16))))) = true from by simp) (r_eqls rfl rfl)) ?_
      refine EL_val (.bool true) w34 rfl (r_pickT rfl rfl) ?_
      refine EL_val (.bool true) w34 rfl (r_assign rfl) ?_
      refine EL_nil ?_
      refine thn_n ?_
      refine EC_ret ?_
      refine fin1 Try.results4 (show _ = .bool true from rfl) ⟨_, rfl, ?_⟩
      exact ⟨rfl, B35⟩
    · refine EC_reg ?_
      refine EL_val v0 w11 rfl (r_move rfl) ?_
      refine EL_val v1 w11 rfl (r_move rfl) ?_
      refine EL_val v2 w11 rfl (r_move rfl) ?_
      refine EL_val v3 w11 rfl (r_move rfl) ?_
      refine EL_ret [v0, v1, v2, v3] rfl Try.func12 rfl nm12 rfl (Open_nobox v0 k v1 n v2 o v3 t w11 (H0.below B13) (H1.below B13) (H2.below B13) (H3.below B13) (by first | omega | (simp; done) | (simp; omega)) (by first | omega | (simp; done) | (simp; omega)) (by first | omega | (simp; done) | (simp; omega)) (by first | omega | (rw [box_len]; decide) | (simp; done) | (simp; omega)) hb) ?_
      rintro _ w38 ⟨rfl, B39⟩
      have B40 : Below w.heap.size w w38 := below_full B13 B13.size B39
      have B41 : Below w11.heap.size w11 w38 := B39
      refine EL_val (.tuple #[.slice none 0 0, .int .i64 20]) w38 rfl (r_move rfl) ?_
      refine EL_val (.slice none 0 0) w38 rfl (r_extract rfl rfl) ?_
      refine EL_val (.int .i64 20) w38 rfl (r_extract rfl rfl) ?_
      refine EL_val (.slice none 0 0) w38 rfl (r_assign rfl) ?_
      refine EL_val (.int .i64 20) w38 rfl (r_assign rfl) ?_
      refine EL_nil ?_
      refine thn_n ?_
      refine EC_seq ?_
      refine EC_seq ?_
      refine EC_reg ?_
      refine EL_val v0 w38 rfl (r_move rfl) ?_
      refine EL_val (.int .i64 (k.length : Int)) w38 rfl (lenB (r_len rfl (H0.below B40) Try.underlying22)) ?_
      refine EL_val (.bool (decide ((k.length : Int) ≠ 32))) w38 rfl (r_neq rfl rfl) ?_
      refine EL_val (.bool (decide ((k.length : Int) ≠ 32))) w38 rfl (r_move rfl) ?_
      refine EL_gite 34 rfl rfl rfl v1 rfl (fun g42 => r_move rfl) ?_
      refine EL_gite 34 rfl rfl rfl (.int .i64 (n.length : Int)) rfl (fun g43 => lenB (r_len (cond_of g43 rfl) (H1.below B40) Try.underlying22)) ?_
      refine EL_gite 34 rfl rfl rfl (.bool (decide ((n.length : Int) ≠ 12))) rfl (fun g44 => r_neq (cond_of g44 rfl) rfl) ?_
      refine EL_val (.bool ((decide ((k.length : Int) ≠ 32)) || (decide ((n.length : Int) ≠ 12)))) w38 rfl (r_or rfl rfl rfl) ?_
      refine EL_nil ?_
      refine thn_n ?_
      refine EC_cond_false (Eq.trans (show _ = Value.bool ((decide ((k.length : Int) ≠ 32)) || (decide ((n.length : Int) ≠ 12))) from rfl) (congrArg Value.bool (show ((decide ((k.length : Int) ≠ 32)) || (decide ((n.length : Int) ≠ 12))) = false from by simp; omega))) ?_
      refine EC_skip ?_
      refine thn_n ?_
      refine EC_seq ?_
      refine EC_reg ?_
      refine EL_val v0 w38 rfl (r_move rfl) ?_
      refine EL_val v1 w38 rfl (r_move rfl) ?_
      refine EL_val v2 w38 rfl (r_move rfl) ?_
      refine EL_val v3 w38 rfl (r_move rfl) ?_
      refine EL_ret [v0, v1, v2, v3] rfl Try.func13 rfl nm13 rfl (rOpen_nobox v0 k v1 n v2 o v3 t w38 (H0.below B40) (H1.below B40) (H2.below B40) (H3.below B40) (by first | omega | (simp; done) | (simp; omega)) (by first | omega | (simp; done) | (simp; omega)) (by first | omega | (simp; done) | (simp; omega)) (by first | omega | (simp; done) | (simp; omega)) hb) ?_
      rintro _ w45 ⟨rfl, B46⟩
      have B47 : Below w.heap.size w w45 := below_full B40 B40.size B46
      have B48 : Below w11.heap.size w11 w45 := below_full B41 B41.size B46
      have B49 : Below w38.heap.size w38 w45 := B46
      refine EL_val (.tuple #[.slice none 0 0, .bool false]) w45 rfl (r_move rfl) ?_
      refine EL_val (.slice none 0 0) w45 rfl (r_extract rfl rfl) ?_
      refine EL_val (.bool false) w45 rfl (r_extract rfl rfl) ?_
      refine EL_val (.slice none 0 0) w45 rfl (r_assign rfl) ?_
      refine EL_val (.bool false) w45 rfl (r_assign rfl) ?_
      refine EL_nil ?_
      refine thn_n ?_
      refine EC_seq ?_
      refine EC_seq ?_
      refine EC_reg ?_
      refine EL_val (.bool false) w45 rfl (r_move rfl) ?_
      refine EL_val (.bool true) w45 rfl (r_dec (show (!false) = true from rfl) (r_not rfl)) ?_
      refine EL_nil ?_
      refine thn_n ?_
      refine EC_cond_true rfl ?_
      refine EC_seq ?_
      refine EC_reg ?_
      refine EL_val (.int .i64 20) w45 rfl (r_move rfl) ?_
      refine EL_val (.bool true) w45 rfl (r_dec (by decide) (r_eql rfl rfl)) ?_
      refine EL_val (.bool true) w45 rfl (r_move rfl) ?_
      refine EL_gval 58 rfl rfl rfl rfl (.slice none 0 0) w45 rfl (r_move rfl) ?_
      refine EL_gval 58 rfl rfl rfl rfl (.int .i64 0) w45 rfl (r_asn (show ((([] : List UInt8).length : Nat) : Int) = 0 from rfl) (lenB (r_len rfl (Row.nil _) Try.underlying22))) ?_
      refine EL_gval 58 rfl rfl rfl rfl (.bool true) w45 rfl (r_dec (by decide) (r_eql rfl rfl)) ?_
      refine EL_val (.bool true) w45 rfl (r_pickT rfl rfl) ?_
      refine EL_val (.bool true) w45 rfl (r_assign rfl) ?_
      refine EL_nil ?_
      refine thn_n ?_
      refine EC_ret ?_
      refine thn_r ?_
      refine fin1 Try.results4 (show _ = .bool true from rfl) ⟨_, rfl, ?_⟩
      exact ⟨rfl, B47⟩
theorem own : ownKnob Try.prog.godebug = none := by kernel_rfl
theorem laidOut : laidOutB Try.prog = true := by kernel_rfl
set_option maxRecDepth 100000 in
theorem lifted (os : Os) (started : os.Started) (H : Type) (enc : TypeId × Value → H) :
    ReturnsInHanded {} Try.checked os 4 .any (Rows.aeadOpensSpec.pre6 enc Try.prog Try.f4 Rows.aeadOpensRow.domain false) (Rows.aeadOpensSpec.post enc Try.prog Try.f4 false true false false) := by
  refine returnsInHanded_of_change (C := Try.checked) own started (by kernel_rfl) Try.func4
    (ChangeSpec.witness6 (enc := enc) (C := Try.checked) false ⟨#[], #[.slice none 0 0, .slice none 0 0, .slice none 0 0, .slice none 0 0], []⟩ 8 (by kernel_rfl) (by kernel_rfl) (by kernel_rfl) (by kernel_rfl)) ?_
  intro W base args ds gs before hval0 hW hcnd _
  have hval : ∀ (j : Nat) t v, Try.f4.params[j]? = some t → args[j]? = some v → Value.okWide Try.prog W .any base t v := hval0
  have hW' := hW
  obtain ⟨p, q, hA0, hV, rfl, hfz, hnd⟩ := hW
  have hA : DataW.TrodAll enc Try.prog W 0 (fun _ => true) true Try.f4.params.toList args.toList ds p := hA0
  rw [Try.params4] at hA hval
  obtain ⟨v0, vs0, d0, ds0, p0, q0, hargs, rfl, rfl, h0, r0⟩ := trodAll_cons hA
  obtain ⟨v1, vs1, d1, ds1, p1, q1, rfl, rfl, rfl, h1, r1⟩ := trodAll_cons r0
  obtain ⟨v2, vs2, d2, ds2, p2, q2, rfl, rfl, rfl, h2, r2⟩ := trodAll_cons r1
  obtain ⟨v3, vs3, d3, ds3, p3, q3, rfl, rfl, rfl, h3, r3⟩ := trodAll_cons r2
  obtain ⟨rfl, rfl, rfl⟩ := trodAll_nil r3
  obtain rfl : args = #[v0, v1, v2, v3] := by cases args; simp_all
  obtain ⟨rfl, rfl⟩ := trodVars_none hV
  have k0 := h0
  have lt0 : ∀ x ∈ p0, x.block < W.heap.size := by obtain ⟨m, hm⟩ := k0; exact DataW.trod_lt m _ _ _ hm
  obtain ⟨a0, len0, cap0, rfl⟩ := okWide_slice Try.underlying22 (hval 0 22 v0 rfl rfl)
  obtain ⟨b0, H0⟩ : ∃ l, Bs W (.slice a0 len0 cap0) l := by
    obtain ⟨fuel, hf⟩ := h0
    rcases open_ints Try.underlying22 Try.underlying5 (by kernel_rfl) hf with ⟨hcs, _⟩ | ⟨x, l, c, zs, hcs, _, hl, hm, hz, _, hcell, hwz⟩
    · simp [Value.cells] at hcs
      obtain ⟨rfl, rfl, rfl⟩ := hcs
      exact ⟨[], Row.nil W⟩
    · simp [Value.cells] at hcs
      obtain ⟨rfl, rfl, rfl⟩ := hcs
      exact bs_open hl hm (by simpa using hz) hcell hwz
  have k1 := h1
  have lt1 : ∀ x ∈ p1, x.block < W.heap.size := by obtain ⟨m, hm⟩ := k1; exact DataW.trod_lt m _ _ _ hm
  obtain ⟨a1, len1, cap1, rfl⟩ := okWide_slice Try.underlying22 (hval 1 22 v1 rfl rfl)
  obtain ⟨b1, H1⟩ : ∃ l, Bs W (.slice a1 len1 cap1) l := by
    obtain ⟨fuel, hf⟩ := h1
    rcases open_ints Try.underlying22 Try.underlying5 (by kernel_rfl) hf with ⟨hcs, _⟩ | ⟨x, l, c, zs, hcs, _, hl, hm, hz, _, hcell, hwz⟩
    · simp [Value.cells] at hcs
      obtain ⟨rfl, rfl, rfl⟩ := hcs
      exact ⟨[], Row.nil W⟩
    · simp [Value.cells] at hcs
      obtain ⟨rfl, rfl, rfl⟩ := hcs
      exact bs_open hl hm (by simpa using hz) hcell hwz
  have k2 := h2
  have lt2 : ∀ x ∈ p2, x.block < W.heap.size := by obtain ⟨m, hm⟩ := k2; exact DataW.trod_lt m _ _ _ hm
  obtain ⟨a2, len2, cap2, rfl⟩ := okWide_slice Try.underlying22 (hval 2 22 v2 rfl rfl)
  obtain ⟨b2, H2⟩ : ∃ l, Bs W (.slice a2 len2 cap2) l := by
    obtain ⟨fuel, hf⟩ := h2
    rcases open_ints Try.underlying22 Try.underlying5 (by kernel_rfl) hf with ⟨hcs, _⟩ | ⟨x, l, c, zs, hcs, _, hl, hm, hz, _, hcell, hwz⟩
    · simp [Value.cells] at hcs
      obtain ⟨rfl, rfl, rfl⟩ := hcs
      exact ⟨[], Row.nil W⟩
    · simp [Value.cells] at hcs
      obtain ⟨rfl, rfl, rfl⟩ := hcs
      exact bs_open hl hm (by simpa using hz) hcell hwz
  have k3 := h3
  have lt3 : ∀ x ∈ p3, x.block < W.heap.size := by obtain ⟨m, hm⟩ := k3; exact DataW.trod_lt m _ _ _ hm
  obtain ⟨a3, len3, cap3, rfl⟩ := okWide_slice Try.underlying22 (hval 3 22 v3 rfl rfl)
  obtain ⟨b3, H3⟩ : ∃ l, Bs W (.slice a3 len3 cap3) l := by
    obtain ⟨fuel, hf⟩ := h3
    rcases open_ints Try.underlying22 Try.underlying5 (by kernel_rfl) hf with ⟨hcs, _⟩ | ⟨x, l, c, zs, hcs, _, hl, hm, hz, _, hcell, hwz⟩
    · simp [Value.cells] at hcs
      obtain ⟨rfl, rfl, rfl⟩ := hcs
      exact ⟨[], Row.nil W⟩
    · simp [Value.cells] at hcs
      obtain ⟨rfl, rfl, rfl⟩ := hcs
      exact bs_open hl hm (by simpa using hz) hcell hwz
  clear hA0 hval0
  refine Calls.mono (AeadOpens_c (.slice a0 len0 cap0) b0 (.slice a1 len1 cap1) b1 (.slice a2 len2 cap2) b2 (.slice a3 len3 cap3) b3 W H0 H1 H2 H3) fun e W' ⟨v', he, hv, bel⟩ => ?_
  subst he
  subst hv
  exact ⟨_, rfl, _, _, _, [], _, [], hW', trodAll_mk1 (shut_bool Try.underlying4 _), (trodAll_cons_mk (Below.trod laidOut (by kernel_rfl) (of_decide_eq_true (by kernel_rfl)) k0 bel lt0) (trodAll_cons_mk (Below.trod laidOut (by kernel_rfl) (of_decide_eq_true (by kernel_rfl)) k1 bel lt1) (trodAll_cons_mk (Below.trod laidOut (by kernel_rfl) (of_decide_eq_true (by kernel_rfl)) k2 bel lt2) (trodAll_cons_mk (Below.trod laidOut (by kernel_rfl) (of_decide_eq_true (by kernel_rfl)) k3 bel lt3) trodAll_mk0)))), rfl, bel.frame _, fun h => by cases h⟩
theorem over : Rows.aeadOpensRow.holds Try.pinned (OpenSpec.ofChange Rows.aeadOpensSpec) :=
  OpenClaim.holds_of_wide 4 Try.f4 rfl rfl rfl rfl rfl rfl rfl ⟨rfl, rfl, rfl, rfl, rfl⟩ rfl rfl rfl rfl rfl (by kernel_rfl) Try.func4 (by kernel_rfl)
    (of_decide_eq_true (by kernel_rfl)) (by unfold Func.isWrapper; first | (rw [if_pos (by decide +kernel)]; kernel_rfl) | (rw [if_neg (by decide +kernel)]; exact ⟨rfl, rfl⟩))
    (fun os started H enc _ => lifted os started H enc)
end Go.Proofs.Ytlhaojpkejpgfaa.aeadOpens
namespace Go.Proofs.Ytlhaojpkejpgfaa
theorem AeadOpens_holds : Rows.AeadOpensSaid := aeadOpens.over
end Go.Proofs.Ytlhaojpkejpgfaa
