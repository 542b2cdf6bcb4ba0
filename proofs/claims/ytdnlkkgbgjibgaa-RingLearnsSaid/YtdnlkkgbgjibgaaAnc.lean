import Derived.Test.YtdnlkkgbgjibgaaRngB
import Derived.Test.YtdnlkkgbgjibgaaRingLaw
set_option linter.unusedVariables false
set_option linter.unusedSimpArgs false
namespace Go.Proofs.Ytdnlkkgbgjibgaa
open Go.RowKit Go.Ecal

set_option maxRecDepth 100000 in
set_option maxHeartbeats 4000000 in
theorem anchor_c (I : Gh) (R : List HP) (w : World) (S : Sat w I (R)) : Ret Try.prog 8 [] w fun v w' => ∃ J : Gh, Gh.le I J ∧ .bool true = v ∧ Sat w' J (R) := by
  refine ret_E Try.func8 rfl Try.ntmps8 (by simp) ?_
  refine EC_seq ?_
  refine EC_reg ?_
  refine EL_val (.bool false) w rfl (r_assign rfl) ?_
  refine EL_nil ?_
  refine thn_n ?_
  refine EC_seq ?_
  refine EC_reg ?_
  refine EL_ret _ rfl Try.func10 rfl nm10 rfl (Signs_c I _ _ S) ?_
  rintro _ w11 ⟨p13, rfl, S12⟩
  refine EL_val p13 w11 rfl (r_assign rfl) ?_
  refine EL_nil ?_
  refine thn_n ?_
  refine EC_seq ?_
  refine EC_reg ?_
  refine EL_val p13 w11 rfl (r_move rfl) ?_
  refine EL_ret _ rfl Try.func11 rfl nm11 rfl (Key_c p13 ([] : List Thing) I _ _ S12 (of_decide_eq_true (by kernel_rfl))) ?_
  rintro _ w14 ⟨v16, rfl, S15⟩
  refine EL_val v16 w14 rfl (r_assign rfl) ?_
  refine EL_nil ?_
  refine thn_n ?_
  refine EC_seq ?_
  refine EC_reg ?_
  refine EL_val p13 w14 rfl (r_move rfl) ?_
  refine EL_lit w14.heap.size #[.int .u8 120] elB rfl (by decide) rfl (Nat.le_refl _) (by kernel_rfl) ?_
  intro v17 w18 O19 B20 k21 z22
  have S23 : Sat w18 I (OwnB v17 [(120 : UInt8)] :: OwnB v16 (signOf 75 ((([] : List Thing).length : Int) + 1)) :: Suite p13 (([] : List Thing) ++ [tKey]) :: R) := S15.newO B20 (own_eq (l := [(120 : UInt8)]) O19 (by simp [bof_val, byt]))
  refine EL_mark (v := v17) rfl rfl (S23.own 0 rfl) (by simp) Try.underlying23 Try.underlying5 ?_
  intro w24 R25 G26 z27
  obtain ⟨g33, q32⟩ : ∃ g, v17.ownBlock = some g := own_block (S23.own 0 rfl) (by simp)
  obtain ⟨I28, le29, S30, H31⟩ : ∃ J : Gh, Gh.le I J ∧ Sat w24 J (OwnB v16 (signOf 75 ((([] : List Thing).length : Int) + 1)) :: Suite p13 (([] : List Thing) ++ [tKey]) :: R) ∧ Ro J v17 ([(120 : UInt8)].map byt) := S23.frzTo 0 rfl G26 q32 R25
  refine EL_val v16 w24 rfl (r_move rfl) ?_
  obtain ⟨I34, le35, S36, H37⟩ : ∃ J : Gh, Gh.le I28 J ∧ Sat w24 J (Suite p13 (([] : List Thing) ++ [tKey]) :: R) ∧ Ro J v16 ((signOf 75 ((([] : List Thing).length : Int) + 1)).map byt) := S30.frz 0 rfl
  refine EL_ret _ rfl Try.func12 rfl nm12 rfl (Wrap_c p13 (([] : List Thing) ++ [tKey]) v17 [(120 : UInt8)] 2 1 v16 (signOf 75 ((([] : List Thing).length : Int) + 1)) I34 _ _ S36 (H31.up le35) H37 (of_decide_eq_true (by kernel_rfl)) (by decide)) ?_
  rintro _ w38 ⟨v40, I41, le42, rfl, S39⟩
  refine EL_val (.tuple #[v40, .int .i64 (wrapE 2 1 (signOf 75 ((([] : List Thing).length : Int) + 1)))]) w38 rfl (r_move rfl) ?_
  refine EL_val v40 w38 rfl (r_extract rfl rfl) ?_
  refine EL_val (.int .i64 (wrapE 2 1 (signOf 75 ((([] : List Thing).length : Int) + 1)))) w38 rfl (r_extract rfl rfl) ?_
  refine EL_val v40 w38 rfl (r_assign rfl) ?_
  refine EL_val (.int .i64 (wrapE 2 1 (signOf 75 ((([] : List Thing).length : Int) + 1)))) w38 rfl (r_assign rfl) ?_
  refine EL_nil ?_
  refine thn_n ?_
  refine EC_seq ?_
  refine EC_reg ?_
  refine EL_val p13 w38 rfl (r_move rfl) ?_
  refine EL_lit w38.heap.size #[.int .u8 120] elB rfl (by decide) rfl (Nat.le_refl _) (by kernel_rfl) ?_
  intro v43 w44 O45 B46 k47 z48
  have S49 : Sat w44 I41 (OwnB v43 [(120 : UInt8)] :: OwnB v40 (wrapB (([] : List Thing) ++ [tKey]) [(120 : UInt8)] 2 1 (signOf 75 ((([] : List Thing).length : Int) + 1))) :: Suite p13 (wrapL (([] : List Thing) ++ [tKey]) [(120 : UInt8)] 2 1 (signOf 75 ((([] : List Thing).length : Int) + 1))) :: R) := S39.newO B46 (own_eq (l := [(120 : UInt8)]) O45 (by simp [bof_val, byt]))
  refine EL_mark (v := v43) rfl rfl (S49.own 0 rfl) (by simp) Try.underlying23 Try.underlying5 ?_
  intro w50 R51 G52 z53
  obtain ⟨g59, q58⟩ : ∃ g, v43.ownBlock = some g := own_block (S49.own 0 rfl) (by simp)
  obtain ⟨I54, le55, S56, H57⟩ : ∃ J : Gh, Gh.le I41 J ∧ Sat w50 J (OwnB v40 (wrapB (([] : List Thing) ++ [tKey]) [(120 : UInt8)] 2 1 (signOf 75 ((([] : List Thing).length : Int) + 1))) :: Suite p13 (wrapL (([] : List Thing) ++ [tKey]) [(120 : UInt8)] 2 1 (signOf 75 ((([] : List Thing).length : Int) + 1))) :: R) ∧ Ro J v43 ([(120 : UInt8)].map byt) := S49.frzTo 0 rfl G52 q58 R51
  refine EL_val v40 w50 rfl (r_move rfl) ?_
  obtain ⟨I60, le61, S62, H63⟩ : ∃ J : Gh, Gh.le I54 J ∧ Sat w50 J (Suite p13 (wrapL (([] : List Thing) ++ [tKey]) [(120 : UInt8)] 2 1 (signOf 75 ((([] : List Thing).length : Int) + 1))) :: R) ∧ Ro J v40 ((wrapB (([] : List Thing) ++ [tKey]) [(120 : UInt8)] 2 1 (signOf 75 ((([] : List Thing).length : Int) + 1))).map byt) := S56.frz 0 rfl
  refine EL_ret _ rfl Try.func13 rfl nm13 rfl (Unwrap_c p13 (wrapL (([] : List Thing) ++ [tKey]) [(120 : UInt8)] 2 1 (signOf 75 ((([] : List Thing).length : Int) + 1))) v43 [(120 : UInt8)] 2 1 v40 (wrapB (([] : List Thing) ++ [tKey]) [(120 : UInt8)] 2 1 (signOf 75 ((([] : List Thing).length : Int) + 1))) I60 _ _ S62 (H57.up le61) H63 (of_decide_eq_true (by kernel_rfl)) (by decide) (of_decide_eq_true (by kernel_rfl)) (of_decide_eq_true (by kernel_rfl))) ?_
  rintro _ w64 ⟨v66, I67, le68, rfl, H69, S65⟩
  refine EL_val (.tuple #[v66, .int .i64 (unwrapE (wrapL (([] : List Thing) ++ [tKey]) [(120 : UInt8)] 2 1 (signOf 75 ((([] : List Thing).length : Int) + 1))) [(120 : UInt8)] 2 1 (wrapB (([] : List Thing) ++ [tKey]) [(120 : UInt8)] 2 1 (signOf 75 ((([] : List Thing).length : Int) + 1))))]) w64 rfl (r_move rfl) ?_
  refine EL_val v66 w64 rfl (r_extract rfl rfl) ?_
  refine EL_val (.int .i64 (unwrapE (wrapL (([] : List Thing) ++ [tKey]) [(120 : UInt8)] 2 1 (signOf 75 ((([] : List Thing).length : Int) + 1))) [(120 : UInt8)] 2 1 (wrapB (([] : List Thing) ++ [tKey]) [(120 : UInt8)] 2 1 (signOf 75 ((([] : List Thing).length : Int) + 1))))) w64 rfl (r_extract rfl rfl) ?_
  refine EL_val v66 w64 rfl (r_assign rfl) ?_
  refine EL_val (.int .i64 (unwrapE (wrapL (([] : List Thing) ++ [tKey]) [(120 : UInt8)] 2 1 (signOf 75 ((([] : List Thing).length : Int) + 1))) [(120 : UInt8)] 2 1 (wrapB (([] : List Thing) ++ [tKey]) [(120 : UInt8)] 2 1 (signOf 75 ((([] : List Thing).length : Int) + 1))))) w64 rfl (r_assign rfl) ?_
  refine EL_nil ?_
  refine thn_n ?_
  refine EC_seq ?_
  refine EC_reg ?_
  refine EL_val p13 w64 rfl (r_move rfl) ?_
  refine EL_lit w64.heap.size #[.int .u8 120] elB rfl (by decide) rfl (Nat.le_refl _) (by kernel_rfl) ?_
  intro v70 w71 O72 B73 k74 z75
  have S76 : Sat w71 I67 (OwnB v70 [(120 : UInt8)] :: Suite p13 (unwrapL (wrapL (([] : List Thing) ++ [tKey]) [(120 : UInt8)] 2 1 (signOf 75 ((([] : List Thing).length : Int) + 1))) [(120 : UInt8)] 2 1) :: R) := S65.newO B73 (own_eq (l := [(120 : UInt8)]) O72 (by simp [bof_val, byt]))
  refine EL_mark (v := v70) rfl rfl (S76.own 0 rfl) (by simp) Try.underlying23 Try.underlying5 ?_
  intro w77 R78 G79 z80
  obtain ⟨g86, q85⟩ : ∃ g, v70.ownBlock = some g := own_block (S76.own 0 rfl) (by simp)
  obtain ⟨I81, le82, S83, H84⟩ : ∃ J : Gh, Gh.le I67 J ∧ Sat w77 J (Suite p13 (unwrapL (wrapL (([] : List Thing) ++ [tKey]) [(120 : UInt8)] 2 1 (signOf 75 ((([] : List Thing).length : Int) + 1))) [(120 : UInt8)] 2 1) :: R) ∧ Ro J v70 ([(120 : UInt8)].map byt) := S76.frzTo 0 rfl G79 q85 R78
  refine EL_val v40 w77 rfl (r_move rfl) ?_
  refine EL_ret _ rfl Try.func13 rfl nm13 rfl (Unwrap_c p13 (unwrapL (wrapL (([] : List Thing) ++ [tKey]) [(120 : UInt8)] 2 1 (signOf 75 ((([] : List Thing).length : Int) + 1))) [(120 : UInt8)] 2 1) v70 [(120 : UInt8)] 3 1 v40 (wrapB (([] : List Thing) ++ [tKey]) [(120 : UInt8)] 2 1 (signOf 75 ((([] : List Thing).length : Int) + 1))) I81 _ _ S83 H84 (H63.up (Gh.le_trans le68 le82)) (of_decide_eq_true (by kernel_rfl)) (by decide) (of_decide_eq_true (by kernel_rfl)) (of_decide_eq_true (by kernel_rfl))) ?_
  rintro _ w87 ⟨v89, I90, le91, rfl, H92, S88⟩
  refine EL_val (.tuple #[v89, .int .i64 (unwrapE (unwrapL (wrapL (([] : List Thing) ++ [tKey]) [(120 : UInt8)] 2 1 (signOf 75 ((([] : List Thing).length : Int) + 1))) [(120 : UInt8)] 2 1) [(120 : UInt8)] 3 1 (wrapB (([] : List Thing) ++ [tKey]) [(120 : UInt8)] 2 1 (signOf 75 ((([] : List Thing).length : Int) + 1))))]) w87 rfl (r_move rfl) ?_
  refine EL_val v89 w87 rfl (r_extract rfl rfl) ?_
  refine EL_val (.int .i64 (unwrapE (unwrapL (wrapL (([] : List Thing) ++ [tKey]) [(120 : UInt8)] 2 1 (signOf 75 ((([] : List Thing).length : Int) + 1))) [(120 : UInt8)] 2 1) [(120 : UInt8)] 3 1 (wrapB (([] : List Thing) ++ [tKey]) [(120 : UInt8)] 2 1 (signOf 75 ((([] : List Thing).length : Int) + 1))))) w87 rfl (r_extract rfl rfl) ?_
  refine EL_val v89 w87 rfl (r_assign rfl) ?_
  refine EL_val (.int .i64 (unwrapE (unwrapL (wrapL (([] : List Thing) ++ [tKey]) [(120 : UInt8)] 2 1 (signOf 75 ((([] : List Thing).length : Int) + 1))) [(120 : UInt8)] 2 1) [(120 : UInt8)] 3 1 (wrapB (([] : List Thing) ++ [tKey]) [(120 : UInt8)] 2 1 (signOf 75 ((([] : List Thing).length : Int) + 1))))) w87 rfl (r_assign rfl) ?_
  refine EL_nil ?_
  refine thn_n ?_
  refine EC_seq ?_
  refine EC_reg ?_
  refine EL_val (.int .i64 (wrapE 2 1 (signOf 75 ((([] : List Thing).length : Int) + 1)))) w87 rfl (r_move rfl) ?_
  refine EL_val (.bool true) w87 rfl (r_dec (show (decide ((wrapE 2 1 (signOf 75 ((([] : List Thing).length : Int) + 1))) = 0)) = true from by kernel_rfl) (r_eql rfl rfl)) ?_
  refine EL_val (.bool true) w87 rfl (r_move rfl) ?_
  refine EL_gval 38 rfl rfl rfl rfl (.int .i64 (unwrapE (wrapL (([] : List Thing) ++ [tKey]) [(120 : UInt8)] 2 1 (signOf 75 ((([] : List Thing).length : Int) + 1))) [(120 : UInt8)] 2 1 (wrapB (([] : List Thing) ++ [tKey]) [(120 : UInt8)] 2 1 (signOf 75 ((([] : List Thing).length : Int) + 1))))) w87 rfl (r_move rfl) ?_
  refine EL_gval 38 rfl rfl rfl rfl (.bool true) w87 rfl (r_dec (show (decide ((unwrapE (wrapL (([] : List Thing) ++ [tKey]) [(120 : UInt8)] 2 1 (signOf 75 ((([] : List Thing).length : Int) + 1))) [(120 : UInt8)] 2 1 (wrapB (([] : List Thing) ++ [tKey]) [(120 : UInt8)] 2 1 (signOf 75 ((([] : List Thing).length : Int) + 1)))) = 0)) = true from by kernel_rfl) (r_eql rfl rfl)) ?_
  refine EL_val (.bool true) w87 rfl (r_pickT rfl rfl) ?_
  refine EL_val (.bool true) w87 rfl (r_move rfl) ?_
  refine EL_gval 42 rfl rfl rfl rfl v66 w87 rfl (r_move rfl) ?_
  refine EL_gval 42 rfl rfl rfl rfl (.string (str (unwrapB (wrapL (([] : List Thing) ++ [tKey]) [(120 : UInt8)] 2 1 (signOf 75 ((([] : List Thing).length : Int) + 1))) [(120 : UInt8)] 2 1 (wrapB (([] : List Thing) ++ [tKey]) [(120 : UInt8)] 2 1 (signOf 75 ((([] : List Thing).length : Int) + 1)))))) w87 rfl (r_str rfl (H69 _ (Gh.le_trans (Gh.le_trans le82 le91) S88.le)) Try.underlying23 Try.underlying5 Try.underlying9) ?_
  refine EL_gval 42 rfl rfl rfl rfl v16 w87 rfl (r_move rfl) ?_
  refine EL_gval 42 rfl rfl rfl rfl (.string (str (signOf 75 ((([] : List Thing).length : Int) + 1)))) w87 rfl (r_str rfl (H37 _ (Gh.le_trans (Gh.le_trans (Gh.le_trans (Gh.le_trans (Gh.le_trans (Gh.le_trans le42 le55) le61) le68) le82) le91) S88.le)) Try.underlying23 Try.underlying5 Try.underlying9) ?_
  refine EL_gval 42 rfl rfl rfl rfl (.bool true) w87 rfl (r_dec (show (decide ((unwrapB (wrapL (([] : List Thing) ++ [tKey]) [(120 : UInt8)] 2 1 (signOf 75 ((([] : List Thing).length : Int) + 1))) [(120 : UInt8)] 2 1 (wrapB (([] : List Thing) ++ [tKey]) [(120 : UInt8)] 2 1 (signOf 75 ((([] : List Thing).length : Int) + 1)))) = (signOf 75 ((([] : List Thing).length : Int) + 1)))) = true from by kernel_rfl) (r_eqls rfl rfl)) ?_
  refine EL_val (.bool true) w87 rfl (r_pickT rfl rfl) ?_
  refine EL_val (.bool true) w87 rfl (r_move rfl) ?_
  refine EL_gval 49 rfl rfl rfl rfl (.int .i64 (unwrapE (unwrapL (wrapL (([] : List Thing) ++ [tKey]) [(120 : UInt8)] 2 1 (signOf 75 ((([] : List Thing).length : Int) + 1))) [(120 : UInt8)] 2 1) [(120 : UInt8)] 3 1 (wrapB (([] : List Thing) ++ [tKey]) [(120 : UInt8)] 2 1 (signOf 75 ((([] : List Thing).length : Int) + 1))))) w87 rfl (r_move rfl) ?_
  refine EL_gval 49 rfl rfl rfl rfl (.bool true) w87 rfl (r_dec (show (decide ((unwrapE (unwrapL (wrapL (([] : List Thing) ++ [tKey]) [(120 : UInt8)] 2 1 (signOf 75 ((([] : List Thing).length : Int) + 1))) [(120 : UInt8)] 2 1) [(120 : UInt8)] 3 1 (wrapB (([] : List Thing) ++ [tKey]) [(120 : UInt8)] 2 1 (signOf 75 ((([] : List Thing).length : Int) + 1)))) = 20)) = true from by kernel_rfl) (r_eql rfl rfl)) ?_
  refine EL_val (.bool true) w87 rfl (r_pickT rfl rfl) ?_
  refine EL_val (.bool true) w87 rfl (r_move rfl) ?_
  refine EL_gval 53 rfl rfl rfl rfl p13 w87 rfl (r_move rfl) ?_
  refine EL_gret 53 rfl rfl rfl rfl _ rfl Try.func19 rfl nm19 rfl (RNew_c p13 (unwrapL (unwrapL (wrapL (([] : List Thing) ++ [tKey]) [(120 : UInt8)] 2 1 (signOf 75 ((([] : List Thing).length : Int) + 1))) [(120 : UInt8)] 2 1) [(120 : UInt8)] 3 1) (.slice none 0 0) ([] : List UInt8) I90 _ _ S88 Ro.nil (of_decide_eq_true (by kernel_rfl)) (by decide)) ?_
  rintro _ w93 ⟨r95, I96, le97, rfl, S94⟩
  refine EL_gret 53 rfl rfl rfl rfl _ rfl Try.func22 rfl nm22 rfl (Newest_c r95 (ring0 (keyFor (unwrapL (unwrapL (wrapL (([] : List Thing) ++ [tKey]) [(120 : UInt8)] 2 1 (signOf 75 ((([] : List Thing).length : Int) + 1))) [(120 : UInt8)] 2 1) [(120 : UInt8)] 3 1) ([] : List UInt8) uEpoch 0)) I96 _ _ S94 (fun h => by cases h)) ?_
  rintro _ w98 ⟨n100, rfl, h101, S99⟩
  have hn0 := newest0 h101
  refine EL_gval 53 rfl rfl rfl rfl (.bool true) w98 rfl (r_dec (show (decide (n100 = 0)) = true from by rw [decide_eq_true_eq]; exact hn0) (r_eql rfl rfl)) ?_
  refine EL_val (.bool true) w98 rfl (r_pickT rfl rfl) ?_
  refine EL_val (.bool true) w98 rfl (r_assign rfl) ?_
  refine EL_nil ?_
  refine thn_n ?_
  refine EC_ret ?_
  refine fin1 Try.results8 (show _ = .bool true from rfl) ⟨_, rfl, ?_⟩
  have S102 : Sat w98 I96 (Suite p13 (onceL (derT ([] : List UInt8) uEpoch 0) (unwrapL (unwrapL (wrapL (([] : List Thing) ++ [tKey]) [(120 : UInt8)] 2 1 (signOf 75 ((([] : List Thing).length : Int) + 1))) [(120 : UInt8)] 2 1) [(120 : UInt8)] 3 1)) :: R) := S99.drop 0 rfl
  have S103 : Sat w98 I96 (R) := S102.drop 0 rfl
  exact ⟨I96, (Gh.le_trans (Gh.le_trans (Gh.le_trans (Gh.le_trans (Gh.le_trans (Gh.le_trans (Gh.le_trans (Gh.le_trans le29 le35) le42) le55) le61) le68) le82) le91) le97), rfl, S103⟩

end Go.Proofs.Ytdnlkkgbgjibgaa
