/-
  Any bytes are the record that the document says, or none; what is read has the same bytes.
  Its conditions: none: whatever the input, in whatever memory.
-/
import Derived.Test.YtoajodjcmeijgaaRows
import Derived.Test.YtoajodjcmeijgaaAnc
import Derived.Test.YtoajodjcmeijgaaR15
import Derived.ProofKit
import Derived.OpenShut
import Derived.ShutString
import Derived.ChangeOld
set_option linter.unusedVariables false
set_option linter.unusedSimpArgs false
namespace Go.Proofs.Ytoajodjcmeijgaa.sealedDecodes
open Go.ChangeShapes Go.WideShapes Go.ChangeAt Go.RowKit Go.Ecal
open Go.ChangeMaps (open_string shut_string)
set_option maxRecDepth 100000 in
set_option maxHeartbeats 4000000 in
theorem SealedDecodes_w (v0 : Value) (b : List UInt8) (I : Gh) (R : List HP) (w : World) (S : Sat w I (R)) (Q0 : RoB I v0 b) : Ret Try.prog 7 [v0] w fun v w' => ∃ J : Gh, Gh.le I J ∧ .bool true = v ∧ Sat w' J (R) := by
  have lq0 := RoB.le Q0 S.le
  refine ret_E Try.func7 rfl Try.ntmps7 (by simp) ?_
  refine EC_seq ?_
  refine EC_reg ?_
  refine EL_val (.bool false) w rfl (r_assign rfl) ?_
  refine EL_nil ?_
  refine thn_n ?_
  refine EC_seq ?_
  refine EC_seq ?_
  refine EC_reg ?_
  refine EL_ret _ rfl Try.func9 rfl nm9 rfl (anchor_c I _ _ S) ?_
  rintro _ w11 ⟨I13, le14, rfl, S12⟩
  refine EL_val (.bool false) w11 rfl (r_dec (show (!true) = false from rfl) (r_not rfl)) ?_
  refine EL_nil ?_
  refine thn_n ?_
  refine EC_cond_false rfl ?_
  refine EC_skip ?_
  refine thn_n ?_
  refine EC_seq ?_
  refine EC_seq ?_
  refine EC_reg ?_
  refine EL_val v0 w11 rfl (r_move rfl) ?_
  refine EL_val (.int .i64 (b.length : Int)) w11 rfl (lenB (r_len rfl (Q0 _ (Gh.le_trans le14 S12.le)) Try.underlying22)) ?_
  refine EL_val (.bool (decide (2500 < (b.length : Int)))) w11 rfl (r_gtr rfl rfl) ?_
  refine EL_nil ?_
  refine thn_n ?_
  refine EC_if (p := 2500 < (b.length : Int)) rfl (fun h15 => ?_) (fun h15 => ?_)
  · refine EC_seq ?_
    refine EC_reg ?_
    refine EL_val (.bool true) w11 rfl (r_assign rfl) ?_
    refine EL_nil ?_
    refine thn_n ?_
    refine EC_ret ?_
    refine thn_r ?_
    refine fin1 Try.results7 (show _ = .bool true from rfl) ⟨_, rfl, ?_⟩
    exact ⟨I13, le14, rfl, S12⟩
  · have hg : b.length ≤ 2500 := by omega
    refine EC_skip ?_
    refine thn_n ?_
    refine EC_seq ?_
    rcases Bool.eq_false_or_eq_true (recOk b) with hok | hok
    · have hrb := rec_back hok
      have hrp := rec_put hrb.1
      refine EC_reg ?_
      refine EL_val v0 w11 rfl (r_move rfl) ?_
      refine EL_ret _ rfl Try.func32 rfl nm32 rfl (RDec_c v0 b I13 _ _ S12 (Q0.up le14) (by omega)) ?_
      rintro _ w16 ⟨cs18, I19, le20, rfl, h21, S17⟩
      obtain ⟨v26, rfl, r22, r23, r24, r25, ⟨o27, H28⟩⟩ := h21
      refine EL_val (.tuple #[.agg ([.int .i64 ((recV b).coll), .int .i64 ((recV b).epoch), .int .i64 ((recV b).writer), .int .i64 ((recV b).count), v26]).toArray, .int .i64 (recE b)]) w16 rfl (r_move rfl) ?_
      refine EL_val (.agg ([.int .i64 ((recV b).coll), .int .i64 ((recV b).epoch), .int .i64 ((recV b).writer), .int .i64 ((recV b).count), v26]).toArray) w16 rfl (r_extract rfl rfl) ?_
      refine EL_val (.int .i64 (recE b)) w16 rfl (r_extract rfl rfl) ?_
      refine EL_alloc (z := .agg #[.int .i64 0, .int .i64 0, .int .i64 0, .int .i64 0, .slice none 0 0]) [.int .i64 0, .int .i64 0, .int .i64 0, .int .i64 0, .slice none 0 0] rfl (by kernel_rfl) rfl ?_
      intro b29 w30 k31 A32 B33 z34
      have S35 := S17.newB B33 A32 k31
      refine EL_storeAll (v := .agg ([.int .i64 ((recV b).coll), .int .i64 ((recV b).epoch), .int .i64 ((recV b).writer), .int .i64 ((recV b).count), v26]).toArray) (cs' := ([.int .i64 ((recV b).coll), .int .i64 ((recV b).epoch), .int .i64 ((recV b).writer), .int .i64 ((recV b).count), v26]).toArray) rfl rfl rfl (S35.arr 0 rfl) rfl (by kernel_rfl) (ones_cons rfl (ones_cons rfl (ones_cons rfl (ones_cons rfl (ones_cons o27 (fun _ h => nomatch h)))))) ?_
      intro w36 A37 K38 z39
      have S40 := S35.wr0 (ds := [.int .i64 ((recV b).coll), .int .i64 ((recV b).epoch), .int .i64 ((recV b).writer), .int .i64 ((recV b).count), v26]) K38 A37
      refine EL_val (.int .i64 (recE b)) w36 rfl (r_assign rfl) ?_
      refine EL_nil ?_
      refine thn_n ?_
      refine EC_seq ?_
      refine EC_reg ?_
      refine EL_val v0 w36 rfl (r_move rfl) ?_
      refine EL_ret _ rfl Try.func34 rfl nm34 rfl (Read15_c v0 b I19 _ _ S40 (Q0.up (Gh.le_trans le14 le20)) (by omega)) ?_
      rintro _ w41 ⟨cs43, I44, le45, rfl, h46, S42⟩
      obtain ⟨v51, rfl, r47, r48, r49, r50, ⟨o52, H53⟩⟩ := h46
      refine EL_val (.tuple #[.agg ([.int .i64 ((recV b).coll), .int .i64 ((recV b).epoch), .int .i64 ((recV b).writer), .int .i64 ((recV b).count), v51]).toArray, .bool true]) w41 rfl (r_move (Eq.trans (show _ = .tuple #[.agg ([.int .i64 ((recV b).coll), .int .i64 ((recV b).epoch), .int .i64 ((recV b).writer), .int .i64 ((recV b).count), v51]).toArray, .bool (recOk b)] from rfl) (by rw [show (recOk b) = true from hok]))) ?_
      refine EL_val (.agg ([.int .i64 ((recV b).coll), .int .i64 ((recV b).epoch), .int .i64 ((recV b).writer), .int .i64 ((recV b).count), v51]).toArray) w41 rfl (r_extract rfl rfl) ?_
      refine EL_val (.bool true) w41 rfl (r_extract rfl rfl) ?_
      refine EL_alloc (z := .agg #[.int .i64 0, .int .i64 0, .int .i64 0, .int .i64 0, .slice none 0 0]) [.int .i64 0, .int .i64 0, .int .i64 0, .int .i64 0, .slice none 0 0] rfl (by kernel_rfl) rfl ?_
      intro b54 w55 k56 A57 B58 z59
      have S60 := S42.newB B58 A57 k56
      refine EL_storeAll (v := .agg ([.int .i64 ((recV b).coll), .int .i64 ((recV b).epoch), .int .i64 ((recV b).writer), .int .i64 ((recV b).count), v51]).toArray) (cs' := ([.int .i64 ((recV b).coll), .int .i64 ((recV b).epoch), .int .i64 ((recV b).writer), .int .i64 ((recV b).count), v51]).toArray) rfl rfl rfl (S60.arr 0 rfl) rfl (by kernel_rfl) (ones_cons rfl (ones_cons rfl (ones_cons rfl (ones_cons rfl (ones_cons o52 (fun _ h => nomatch h)))))) ?_
      intro w61 A62 K63 z64
      have S65 := S60.wr0 (ds := [.int .i64 ((recV b).coll), .int .i64 ((recV b).epoch), .int .i64 ((recV b).writer), .int .i64 ((recV b).count), v51]) K63 A62
      refine EL_val (.bool true) w61 rfl (r_assign rfl) ?_
      refine EL_nil ?_
      refine thn_n ?_
      refine EC_seq ?_
      refine EC_seq ?_
      refine EC_reg ?_
      refine EL_val (.bool true) w61 rfl (r_move rfl) ?_
      refine EL_val (.int .i64 (recE b)) w61 rfl (r_move rfl) ?_
      refine EL_val (.bool true) w61 rfl (r_dec (show (decide ((recE b) = 0)) = true from by rw [recE, hok]; rfl) (r_eql rfl rfl)) ?_
      refine EL_val (.bool false) w61 rfl (r_dec (show (true != true) = false from rfl) (r_neqb rfl rfl Try.underlying4)) ?_
      refine EL_val (.bool false) w61 rfl (r_move rfl) ?_
      refine EL_gval 28 rfl rfl rfl rfl (.bool true) w61 rfl (r_move rfl) ?_
      refine EL_gval 28 rfl rfl rfl rfl (.bool false) w61 rfl (r_dec (show (!true) = false from rfl) (r_not rfl)) ?_
      refine EL_gval 28 rfl rfl rfl rfl (.bool false) w61 rfl (r_move rfl) ?_
      refine EL_pass 31 rfl rfl rfl rfl rfl ?_
      refine EL_pass 31 rfl rfl rfl rfl rfl ?_
      refine EL_gval 28 rfl rfl rfl rfl (.bool false) w61 rfl (r_pickF rfl rfl) ?_
      refine EL_val (.bool false) w61 rfl (r_pickF rfl rfl) ?_
      refine EL_val (.bool false) w61 rfl (r_move rfl) ?_
      refine EL_gval 36 rfl rfl rfl rfl (.agg ([.int .i64 ((recV b).coll), .int .i64 ((recV b).epoch), .int .i64 ((recV b).writer), .int .i64 ((recV b).count), v26]).toArray) w61 rfl (r_loadAll rfl (S65.arr 1 rfl) Try.underlying27 rfl (by kernel_rfl)) ?_
      refine EL_gval 36 rfl rfl rfl rfl (.agg ([.int .i64 ((recV b).coll), .int .i64 ((recV b).epoch), .int .i64 ((recV b).writer), .int .i64 ((recV b).count), v51]).toArray) w61 rfl (r_loadAll rfl (S65.arr 0 rfl) Try.underlying42 rfl (by kernel_rfl)) ?_
      refine EL_gret 36 rfl rfl rfl rfl _ rfl Try.func18 rfl nm18 rfl (Same15_c [.int .i64 ((recV b).coll), .int .i64 ((recV b).epoch), .int .i64 ((recV b).writer), .int .i64 ((recV b).count), v26] [.int .i64 ((recV b).coll), .int .i64 ((recV b).epoch), .int .i64 ((recV b).writer), .int .i64 ((recV b).count), v51] (recV b) (recV b) I44 _ _ S65 ⟨v26, rfl, (by first | assumption | omega | (dsimp only; omega)), (by first | assumption | omega | (dsimp only; omega)), (by first | assumption | omega | (dsimp only; omega)), (by first | assumption | omega | (dsimp only; omega)), ⟨o27, (H28.up le45)⟩⟩ ⟨v51, rfl, (by first | assumption | omega | (dsimp only; omega)), (by first | assumption | omega | (dsimp only; omega)), (by first | assumption | omega | (dsimp only; omega)), (by first | assumption | omega | (dsimp only; omega)), ⟨o52, H53⟩⟩) ?_
      rintro _ w66 ⟨rfl, S67⟩
      refine EL_gval 36 rfl rfl rfl rfl (.bool false) w66 rfl (r_dec (show (!true) = false from rfl) (r_not (Eq.trans (show _ = Value.bool (decide ((recV b) = (recV b))) from rfl) (congrArg Value.bool (show (decide ((recV b) = (recV b))) = true from by simp))))) ?_
      refine EL_val (.bool false) w66 rfl (r_pickF rfl rfl) ?_
      refine EL_nil ?_
      refine thn_n ?_
      refine EC_cond_false rfl ?_
      refine EC_skip ?_
      refine thn_n ?_
      refine EC_seq ?_
      refine EC_reg ?_
      refine EL_val (.agg ([.int .i64 ((recV b).coll), .int .i64 ((recV b).epoch), .int .i64 ((recV b).writer), .int .i64 ((recV b).count), v26]).toArray) w66 rfl (r_loadAll rfl (S67.arr 1 rfl) Try.underlying27 rfl (by kernel_rfl)) ?_
      refine EL_ret _ rfl Try.func29 rfl nm29 rfl (REnc_c [.int .i64 ((recV b).coll), .int .i64 ((recV b).epoch), .int .i64 ((recV b).writer), .int .i64 ((recV b).count), v26] (recV b) I44 _ _ S67 ⟨v26, rfl, (by first | assumption | omega | (dsimp only; omega)), (by first | assumption | omega | (dsimp only; omega)), (by first | assumption | omega | (dsimp only; omega)), (by first | assumption | omega | (dsimp only; omega)), ⟨o27, (H28.up le45)⟩⟩) ?_
      rintro _ w68 ⟨v70, I71, le72, rfl, S69⟩
      refine EL_val (.tuple #[v70, .int .i64 ((recV b).encE)]) w68 rfl (r_move rfl) ?_
      refine EL_val v70 w68 rfl (r_extract rfl rfl) ?_
      refine EL_val (.int .i64 ((recV b).encE)) w68 rfl (r_extract rfl rfl) ?_
      refine EL_val v70 w68 rfl (r_assign rfl) ?_
      refine EL_val (.int .i64 ((recV b).encE)) w68 rfl (r_assign rfl) ?_
      refine EL_nil ?_
      refine thn_n ?_
      refine EC_seq ?_
      refine EC_reg ?_
      refine EL_val (.bool true) w68 rfl (r_move rfl) ?_
      refine EL_val (.bool false) w68 rfl (r_dec (show (!true) = false from rfl) (r_not rfl)) ?_
      refine EL_val (.bool false) w68 rfl (r_move rfl) ?_
      refine EL_gval 49 rfl rfl rfl rfl (.int .i64 ((recV b).encE)) w68 rfl (r_move rfl) ?_
      refine EL_gval 49 rfl rfl rfl rfl (.bool true) w68 rfl (r_dec (show (decide (((recV b).encE) = 0)) = true from by rw [Record.encE, if_pos hrb.1, hrp.1]; rfl) (r_eql rfl rfl)) ?_
      refine EL_gval 49 rfl rfl rfl rfl (.bool true) w68 rfl (r_move rfl) ?_
      refine EL_gval 52 rfl rfl rfl rfl v70 w68 rfl (r_move rfl) ?_
      refine EL_gval 52 rfl rfl rfl rfl (.string (str ((recV b).encB))) w68 rfl (r_str rfl (own_row (S69.own 0 rfl)) Try.underlying22 Try.underlying5 Try.underlying9) ?_
      refine EL_gval 52 rfl rfl rfl rfl v0 w68 rfl (r_move rfl) ?_
      refine EL_gval 52 rfl rfl rfl rfl (.string (str b)) w68 rfl (r_str rfl (Q0 _ (Gh.le_trans (Gh.le_trans (Gh.le_trans (Gh.le_trans le14 le20) le45) le72) S69.le)) Try.underlying22 Try.underlying5 Try.underlying9) ?_
      refine EL_gval 52 rfl rfl rfl rfl (.bool true) w68 rfl (r_dec (show (decide (((recV b).encB) = b)) = true from decide_eq_true (by rw [hrp.2, hrb.2])) (r_eqls rfl rfl)) ?_
      refine EL_gval 49 rfl rfl rfl rfl (.bool true) w68 rfl (r_pickT rfl rfl) ?_
      refine EL_val (.bool true) w68 rfl (r_pickF rfl rfl) ?_
      refine EL_val (.bool true) w68 rfl (r_assign rfl) ?_
      refine EL_nil ?_
      refine thn_n ?_
      refine EC_ret ?_
      refine fin1 Try.results7 (show _ = .bool true from rfl) ⟨_, rfl, ?_⟩
      have S73 := S69.dr0
      have S74 := S73.dr0
      have S75 := S74.dr0
      exact ⟨I71, (Gh.le_trans (Gh.le_trans (Gh.le_trans le14 le20) le45) le72), rfl, S75⟩
    · refine EC_reg ?_
      refine EL_val v0 w11 rfl (r_move rfl) ?_
      refine EL_ret _ rfl Try.func32 rfl nm32 rfl (RDec_c v0 b I13 _ _ S12 (Q0.up le14) (by omega)) ?_
      rintro _ w76 ⟨cs78, I79, le80, rfl, h81, S77⟩
      obtain ⟨v86, rfl, r82, r83, r84, r85, ⟨o87, H88⟩⟩ := h81
      refine EL_val (.tuple #[.agg ([.int .i64 ((recV b).coll), .int .i64 ((recV b).epoch), .int .i64 ((recV b).writer), .int .i64 ((recV b).count), v86]).toArray, .int .i64 (recE b)]) w76 rfl (r_move rfl) ?_
      refine EL_val (.agg ([.int .i64 ((recV b).coll), .int .i64 ((recV b).epoch), .int .i64 ((recV b).writer), .int .i64 ((recV b).count), v86]).toArray) w76 rfl (r_extract rfl rfl) ?_
      refine EL_val (.int .i64 (recE b)) w76 rfl (r_extract rfl rfl) ?_
      refine EL_alloc (z := .agg #[.int .i64 0, .int .i64 0, .int .i64 0, .int .i64 0, .slice none 0 0]) [.int .i64 0, .int .i64 0, .int .i64 0, .int .i64 0, .slice none 0 0] rfl (by kernel_rfl) rfl ?_
      intro b89 w90 k91 A92 B93 z94
      have S95 := S77.newB B93 A92 k91
      refine EL_storeAll (v := .agg ([.int .i64 ((recV b).coll), .int .i64 ((recV b).epoch), .int .i64 ((recV b).writer), .int .i64 ((recV b).count), v86]).toArray) (cs' := ([.int .i64 ((recV b).coll), .int .i64 ((recV b).epoch), .int .i64 ((recV b).writer), .int .i64 ((recV b).count), v86]).toArray) rfl rfl rfl (S95.arr 0 rfl) rfl (by kernel_rfl) (ones_cons rfl (ones_cons rfl (ones_cons rfl (ones_cons rfl (ones_cons o87 (fun _ h => nomatch h)))))) ?_
      intro w96 A97 K98 z99
      have S100 := S95.wr0 (ds := [.int .i64 ((recV b).coll), .int .i64 ((recV b).epoch), .int .i64 ((recV b).writer), .int .i64 ((recV b).count), v86]) K98 A97
      refine EL_val (.int .i64 (recE b)) w96 rfl (r_assign rfl) ?_
      refine EL_nil ?_
      refine thn_n ?_
      refine EC_seq ?_
      refine EC_reg ?_
      refine EL_val v0 w96 rfl (r_move rfl) ?_
      refine EL_ret _ rfl Try.func34 rfl nm34 rfl (Read15_c v0 b I79 _ _ S100 (Q0.up (Gh.le_trans le14 le80)) (by omega)) ?_
      rintro _ w101 ⟨cs103, I104, le105, rfl, h106, S102⟩
      obtain ⟨v111, rfl, r107, r108, r109, r110, ⟨o112, H113⟩⟩ := h106
      refine EL_val (.tuple #[.agg ([.int .i64 ((recV b).coll), .int .i64 ((recV b).epoch), .int .i64 ((recV b).writer), .int .i64 ((recV b).count), v111]).toArray, .bool false]) w101 rfl (r_move (Eq.trans (show _ = .tuple #[.agg ([.int .i64 ((recV b).coll), .int .i64 ((recV b).epoch), .int .i64 ((recV b).writer), .int .i64 ((recV b).count), v111]).toArray, .bool (recOk b)] from rfl) (by rw [show (recOk b) = false from hok]))) ?_
      refine EL_val (.agg ([.int .i64 ((recV b).coll), .int .i64 ((recV b).epoch), .int .i64 ((recV b).writer), .int .i64 ((recV b).count), v111]).toArray) w101 rfl (r_extract rfl rfl) ?_
      refine EL_val (.bool false) w101 rfl (r_extract rfl rfl) ?_
      refine EL_alloc (z := .agg #[.int .i64 0, .int .i64 0, .int .i64 0, .int .i64 0, .slice none 0 0]) [.int .i64 0, .int .i64 0, .int .i64 0, .int .i64 0, .slice none 0 0] rfl (by kernel_rfl) rfl ?_
      intro b114 w115 k116 A117 B118 z119
      have S120 := S102.newB B118 A117 k116
      refine EL_storeAll (v := .agg ([.int .i64 ((recV b).coll), .int .i64 ((recV b).epoch), .int .i64 ((recV b).writer), .int .i64 ((recV b).count), v111]).toArray) (cs' := ([.int .i64 ((recV b).coll), .int .i64 ((recV b).epoch), .int .i64 ((recV b).writer), .int .i64 ((recV b).count), v111]).toArray) rfl rfl rfl (S120.arr 0 rfl) rfl (by kernel_rfl) (ones_cons rfl (ones_cons rfl (ones_cons rfl (ones_cons rfl (ones_cons o112 (fun _ h => nomatch h)))))) ?_
      intro w121 A122 K123 z124
      have S125 := S120.wr0 (ds := [.int .i64 ((recV b).coll), .int .i64 ((recV b).epoch), .int .i64 ((recV b).writer), .int .i64 ((recV b).count), v111]) K123 A122
      refine EL_val (.bool false) w121 rfl (r_assign rfl) ?_
      refine EL_nil ?_
      refine thn_n ?_
      refine EC_seq ?_
      refine EC_seq ?_
      refine EC_reg ?_
      refine EL_val (.bool false) w121 rfl (r_move rfl) ?_
      refine EL_val (.int .i64 (recE b)) w121 rfl (r_move rfl) ?_
      refine EL_val (.bool false) w121 rfl (r_dec (show (decide ((recE b) = 0)) = false from by rw [recE, hok]; rfl) (r_eql rfl rfl)) ?_
      refine EL_val (.bool false) w121 rfl (r_dec (show (false != false) = false from rfl) (r_neqb rfl rfl Try.underlying4)) ?_
      refine EL_val (.bool false) w121 rfl (r_move rfl) ?_
      refine EL_gval 28 rfl rfl rfl rfl (.bool false) w121 rfl (r_move rfl) ?_
      refine EL_gval 28 rfl rfl rfl rfl (.bool true) w121 rfl (r_dec (show (!false) = true from rfl) (r_not rfl)) ?_
      refine EL_gval 28 rfl rfl rfl rfl (.bool true) w121 rfl (r_move rfl) ?_
      refine EL_gval 31 rfl rfl rfl rfl (.int .i64 (recE b)) w121 rfl (r_move rfl) ?_
      refine EL_gval 31 rfl rfl rfl rfl (.bool false) w121 rfl (r_dec (show (decide ((recE b) ≠ 10)) = false from by rw [recE, hok]; rfl) (r_neq rfl rfl)) ?_
      refine EL_gval 28 rfl rfl rfl rfl (.bool false) w121 rfl (r_pickT rfl rfl) ?_
      refine EL_val (.bool false) w121 rfl (r_pickF rfl rfl) ?_
      refine EL_val (.bool false) w121 rfl (r_move rfl) ?_
      refine EL_gval 36 rfl rfl rfl rfl (.agg ([.int .i64 ((recV b).coll), .int .i64 ((recV b).epoch), .int .i64 ((recV b).writer), .int .i64 ((recV b).count), v86]).toArray) w121 rfl (r_loadAll rfl (S125.arr 1 rfl) Try.underlying27 rfl (by kernel_rfl)) ?_
      refine EL_gval 36 rfl rfl rfl rfl (.agg ([.int .i64 ((recV b).coll), .int .i64 ((recV b).epoch), .int .i64 ((recV b).writer), .int .i64 ((recV b).count), v111]).toArray) w121 rfl (r_loadAll rfl (S125.arr 0 rfl) Try.underlying42 rfl (by kernel_rfl)) ?_
      refine EL_gret 36 rfl rfl rfl rfl _ rfl Try.func18 rfl nm18 rfl (Same15_c [.int .i64 ((recV b).coll), .int .i64 ((recV b).epoch), .int .i64 ((recV b).writer), .int .i64 ((recV b).count), v86] [.int .i64 ((recV b).coll), .int .i64 ((recV b).epoch), .int .i64 ((recV b).writer), .int .i64 ((recV b).count), v111] (recV b) (recV b) I104 _ _ S125 ⟨v86, rfl, (by first | assumption | omega | (dsimp only; omega)), (by first | assumption | omega | (dsimp only; omega)), (by first | assumption | omega | (dsimp only; omega)), (by first | assumption | omega | (dsimp only; omega)), ⟨o87, (H88.up le105)⟩⟩ ⟨v111, rfl, (by first | assumption | omega | (dsimp only; omega)), (by first | assumption | omega | (dsimp only; omega)), (by first | assumption | omega | (dsimp only; omega)), (by first | assumption | omega | (dsimp only; omega)), ⟨o112, H113⟩⟩) ?_
      rintro _ w126 ⟨rfl, S127⟩
      refine EL_gval 36 rfl rfl rfl rfl (.bool false) w126 rfl (r_dec (show (!true) = false from rfl) (r_not (Eq.trans (show _ = Value.bool (decide ((recV b) = (recV b))) from rfl) (congrArg Value.bool (show (decide ((recV b) = (recV b))) = true from by simp))))) ?_
      refine EL_val (.bool false) w126 rfl (r_pickF rfl rfl) ?_
      refine EL_nil ?_
      refine thn_n ?_
      refine EC_cond_false rfl ?_
      refine EC_skip ?_
      refine thn_n ?_
      refine EC_seq ?_
      refine EC_reg ?_
      refine EL_val (.agg ([.int .i64 ((recV b).coll), .int .i64 ((recV b).epoch), .int .i64 ((recV b).writer), .int .i64 ((recV b).count), v86]).toArray) w126 rfl (r_loadAll rfl (S127.arr 1 rfl) Try.underlying27 rfl (by kernel_rfl)) ?_
      refine EL_ret _ rfl Try.func29 rfl nm29 rfl (REnc_c [.int .i64 ((recV b).coll), .int .i64 ((recV b).epoch), .int .i64 ((recV b).writer), .int .i64 ((recV b).count), v86] (recV b) I104 _ _ S127 ⟨v86, rfl, (by first | assumption | omega | (dsimp only; omega)), (by first | assumption | omega | (dsimp only; omega)), (by first | assumption | omega | (dsimp only; omega)), (by first | assumption | omega | (dsimp only; omega)), ⟨o87, (H88.up le105)⟩⟩) ?_
      rintro _ w128 ⟨v130, I131, le132, rfl, S129⟩
      refine EL_val (.tuple #[v130, .int .i64 ((recV b).encE)]) w128 rfl (r_move rfl) ?_
      refine EL_val v130 w128 rfl (r_extract rfl rfl) ?_
      refine EL_val (.int .i64 ((recV b).encE)) w128 rfl (r_extract rfl rfl) ?_
      refine EL_val v130 w128 rfl (r_assign rfl) ?_
      refine EL_val (.int .i64 ((recV b).encE)) w128 rfl (r_assign rfl) ?_
      refine EL_nil ?_
      refine thn_n ?_
      refine EC_seq ?_
      refine EC_reg ?_
      refine EL_val (.bool false) w128 rfl (r_move rfl) ?_
      refine EL_val (.bool true) w128 rfl (r_dec (show (!false) = true from rfl) (r_not rfl)) ?_
      refine EL_val (.bool true) w128 rfl (r_move rfl) ?_
      refine EL_pass 49 rfl rfl rfl rfl rfl ?_
      refine EL_pass 49 rfl rfl rfl rfl rfl ?_
      refine EL_pass 49 rfl rfl rfl rfl rfl ?_
      refine EL_passU 52 rfl rfl rfl rfl ?_
      refine EL_passU 52 rfl rfl rfl rfl ?_
      refine EL_passU 52 rfl rfl rfl rfl ?_
      refine EL_passU 52 rfl rfl rfl rfl ?_
      refine EL_passU 52 rfl rfl rfl rfl ?_
      refine EL_pass 49 rfl rfl rfl rfl rfl ?_
      refine EL_val (.bool true) w128 rfl (r_pickT rfl rfl) ?_
      refine EL_val (.bool true) w128 rfl (r_assign rfl) ?_
      refine EL_nil ?_
      refine thn_n ?_
      refine EC_ret ?_
      refine fin1 Try.results7 (show _ = .bool true from rfl) ⟨_, rfl, ?_⟩
      have S133 := S129.dr0
      have S134 := S133.dr0
      have S135 := S134.dr0
      exact ⟨I131, (Gh.le_trans (Gh.le_trans (Gh.le_trans le14 le80) le105) le132), rfl, S135⟩
theorem SealedDecodes_c (v0 : Value) (b : List UInt8) (w : World) (H0 : Bs w v0 b) : Ret Try.prog 7 [v0] w fun v w' => v = .bool true ∧ Below w.heap.size w w' :=
  (SealedDecodes_w v0 b (gh w) [] w (Sat.start w) (Row.ro H0)).mono fun v w' h => by obtain ⟨J, le, e, S⟩ := h; exact ⟨e.symm, S.fin le⟩
theorem own : ownKnob Try.prog.godebug = none := by kernel_rfl
theorem laidOut : laidOutB Try.prog = true := by kernel_rfl
set_option maxRecDepth 100000 in
theorem lifted (os : Os) (started : os.Started) (H : Type) (enc : TypeId × Value → H) :
    ReturnsInHanded {} Try.checked os 7 .any (Rows.sealedDecodesSpec.pre6 enc Try.prog Try.f7 Rows.sealedDecodesRow.domain false) (Rows.sealedDecodesSpec.post enc Try.prog Try.f7 false true false false) := by
  refine returnsInHanded_of_change (C := Try.checked) own started (by kernel_rfl) Try.func7
    (ChangeSpec.witness6 (enc := enc) (C := Try.checked) false ⟨#[], #[.slice none 0 0], []⟩ 8 (by kernel_rfl) (by kernel_rfl) (by kernel_rfl) (by kernel_rfl)) ?_
  intro W base args ds gs before hval0 hW hcnd _
  have hval : ∀ (j : Nat) t v, Try.f7.params[j]? = some t → args[j]? = some v → Value.okWide Try.prog W .any base t v := hval0
  have hW' := hW
  obtain ⟨p, q, hA0, hV, rfl, hfz, hnd⟩ := hW
  have hA : DataW.TrodAll enc Try.prog W 0 (fun _ => true) true Try.f7.params.toList args.toList ds p := hA0
  rw [Try.params7] at hA hval
  obtain ⟨v0, vs0, d0, ds0, p0, q0, hargs, rfl, rfl, h0, r0⟩ := trodAll_cons hA
  obtain ⟨rfl, rfl, rfl⟩ := trodAll_nil r0
  obtain rfl : args = #[v0] := by cases args; simp_all
  obtain ⟨rfl, rfl⟩ := trodVars_none hV
  have k0 := h0
  have lt0 : ∀ x ∈ p0, x.block < W.heap.size := by obtain ⟨m, hm⟩ := k0; exact DataW.trod_lt m _ _ _ hm
  obtain ⟨a0, len0, cap0, rfl⟩ := okWide_slice Try.underlying22 (hval 0 22 v0 rfl rfl)
  obtain ⟨b0, H0⟩ : ∃ l, Bs W (.slice a0 len0 cap0) l := by
    obtain ⟨fuel, hf⟩ := h0
    rcases open_ints Try.underlying22 Try.underlying5 (by kernel_rfl) hf with ⟨hcs, _⟩ | ⟨x, l, c, zs, hcs, _, hl, hm, hz, _, hcell, hwz⟩
    · simp [Value.cells] at hcs
      obtain ⟨rfl, rfl, rfl⟩ := hcs
      exact ⟨[], Row.nil W⟩
    · simp [Value.cells] at hcs
      obtain ⟨rfl, rfl, rfl⟩ := hcs
      exact bs_open hl hm (by simpa using hz) hcell hwz
  clear hA0 hval0
  refine Calls.mono (SealedDecodes_c (.slice a0 len0 cap0) b0 W H0) fun e W' ⟨v', he, hv, bel⟩ => ?_
  subst he
  subst hv
  exact ⟨_, rfl, _, _, _, [], _, [], hW', trodAll_mk1 (shut_bool Try.underlying4 _), (trodAll_cons_mk (Below.trod laidOut (by kernel_rfl) (of_decide_eq_true (by kernel_rfl)) k0 bel lt0) trodAll_mk0), rfl, bel.frame _, fun h => by cases h⟩
theorem over : Rows.sealedDecodesRow.holds Try.pinned (OpenSpec.ofChange Rows.sealedDecodesSpec) :=
  OpenClaim.holds_of_wide 7 Try.f7 rfl rfl rfl rfl rfl rfl rfl ⟨rfl, rfl, rfl, rfl, rfl⟩ rfl rfl rfl rfl rfl (by kernel_rfl) Try.func7 (by kernel_rfl)
    (of_decide_eq_true (by kernel_rfl)) (by unfold Func.isWrapper; first | (rw [if_pos (by decide +kernel)]; kernel_rfl) | (rw [if_neg (by decide +kernel)]; exact ⟨rfl, rfl⟩))
    (fun os started H enc _ => lifted os started H enc)
end Go.Proofs.Ytoajodjcmeijgaa.sealedDecodes
namespace Go.Proofs.Ytoajodjcmeijgaa
theorem SealedDecodes_holds : Rows.SealedDecodesSaid := sealedDecodes.over
end Go.Proofs.Ytoajodjcmeijgaa
