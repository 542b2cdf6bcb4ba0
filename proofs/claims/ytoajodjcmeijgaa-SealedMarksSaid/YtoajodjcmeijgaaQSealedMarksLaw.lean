/-
  What another member seals under the epoch's key in a writer's name, with another mark than the writer's, is refused.
  Its conditions: none: whatever the input, in whatever memory.
-/
import Derived.Test.YtoajodjcmeijgaaRows
import Derived.ProofKit
import Derived.OpenShut
import Derived.ShutString
import Derived.ChangeOld
import Derived.Test.YtoajodjcmeijgaaQSealedMarksAnc
import Derived.Test.YtoajodjcmeijgaaQSealedMarksR9B
import Derived.Test.YtoajodjcmeijgaaQSealedMarksMade
import Derived.Test.YtoajodjcmeijgaaQSealedMarksSealLaw
set_option linter.unusedVariables false
set_option linter.unusedSimpArgs false
namespace Go.Proofs.Ytoajodjcmeijgaa.sealedMarks
open Go.ChangeShapes Go.WideShapes Go.ChangeAt Go.RowKit Go.Ecal
open Go.ChangeMaps (open_string shut_string)
set_option maxRecDepth 100000 in
theorem opn_62 : Opn Try.prog 62 wrapR := fun enc w sp hd fuel cs x h => by
  obtain ⟨xs, n, _, _, hl, hxl, hf⟩ := DataW.trod_struct Try.underlying62 h
  have hlen : cs.length = 2 := hl.trans (by kernel_rfl)
  obtain ⟨c0, t0, rfl, l0⟩ := cons_of_len hlen
  obtain ⟨c1, t1, rfl, l1⟩ := cons_of_len l0
  obtain rfl := List.eq_nil_of_length_eq_zero l1
  have e0 : DataW.trod enc Try.prog w 0 sp hd n 3 [c0] = xs[0]? := Opn.part hf rfl rfl rfl (k := 1) (by kernel_rfl) rfl
  obtain ⟨a0, h0⟩ := Opn.field (Opn.int Try.underlying3) (by rw [hxl]; decide) e0
  have e1 : DataW.trod enc Try.prog w 0 sp hd n 22 [c1] = xs[1]? := Opn.part hf rfl rfl rfl (k := 1) (by kernel_rfl) rfl
  obtain ⟨a1, h1⟩ := Opn.field (Opn.bytes Try.underlying22 Try.underlying5 (by kernel_rfl)) (by rw [hxl]; decide) e1
  obtain ⟨q, rh0⟩ := h0; simp only [List.cons.injEq, and_true] at q; subst q
  obtain ⟨vh1, q, oh1, rh1⟩ := h1; simp only [List.cons.injEq, and_true] at q; subst q
  exact ⟨⟨a0, a1⟩, ⟨_, rfl, rh0, ⟨oh1, rh1⟩⟩⟩
set_option maxRecDepth 100000 in
theorem opn_25 : Opn Try.prog 25 entR := fun enc w sp hd fuel cs x h => by
  obtain ⟨xs, n, _, _, hl, hxl, hf⟩ := DataW.trod_struct Try.underlying25 h
  have hlen : cs.length = 9 := hl.trans (by kernel_rfl)
  obtain ⟨c0, t0, rfl, l0⟩ := cons_of_len hlen
  obtain ⟨c1, t1, rfl, l1⟩ := cons_of_len l0
  obtain ⟨c2, t2, rfl, l2⟩ := cons_of_len l1
  obtain ⟨c3, t3, rfl, l3⟩ := cons_of_len l2
  obtain ⟨c4, t4, rfl, l4⟩ := cons_of_len l3
  obtain ⟨c5, t5, rfl, l5⟩ := cons_of_len l4
  obtain ⟨c6, t6, rfl, l6⟩ := cons_of_len l5
  obtain ⟨c7, t7, rfl, l7⟩ := cons_of_len l6
  obtain ⟨c8, t8, rfl, l8⟩ := cons_of_len l7
  obtain rfl := List.eq_nil_of_length_eq_zero l8
  have e0 : DataW.trod enc Try.prog w 0 sp hd n 3 [c0] = xs[0]? := Opn.part hf rfl rfl rfl (k := 1) (by kernel_rfl) rfl
  obtain ⟨a0, h0⟩ := Opn.field (Opn.int Try.underlying3) (by rw [hxl]; decide) e0
  have e1 : DataW.trod enc Try.prog w 0 sp hd n 3 [c1] = xs[1]? := Opn.part hf rfl rfl rfl (k := 1) (by kernel_rfl) rfl
  obtain ⟨a1, h1⟩ := Opn.field (Opn.int Try.underlying3) (by rw [hxl]; decide) e1
  have e2 : DataW.trod enc Try.prog w 0 sp hd n 3 [c2] = xs[2]? := Opn.part hf rfl rfl rfl (k := 1) (by kernel_rfl) rfl
  obtain ⟨a2, h2⟩ := Opn.field (Opn.int Try.underlying3) (by rw [hxl]; decide) e2
  have e3 : DataW.trod enc Try.prog w 0 sp hd n 22 [c3] = xs[3]? := Opn.part hf rfl rfl rfl (k := 1) (by kernel_rfl) rfl
  obtain ⟨a3, h3⟩ := Opn.field (Opn.bytes Try.underlying22 Try.underlying5 (by kernel_rfl)) (by rw [hxl]; decide) e3
  have e4 : DataW.trod enc Try.prog w 0 sp hd n 22 [c4] = xs[4]? := Opn.part hf rfl rfl rfl (k := 1) (by kernel_rfl) rfl
  obtain ⟨a4, h4⟩ := Opn.field (Opn.bytes Try.underlying22 Try.underlying5 (by kernel_rfl)) (by rw [hxl]; decide) e4
  have e5 : DataW.trod enc Try.prog w 0 sp hd n 3 [c5] = xs[5]? := Opn.part hf rfl rfl rfl (k := 1) (by kernel_rfl) rfl
  obtain ⟨a5, h5⟩ := Opn.field (Opn.int Try.underlying3) (by rw [hxl]; decide) e5
  have e6 : DataW.trod enc Try.prog w 0 sp hd n 3 [c6] = xs[6]? := Opn.part hf rfl rfl rfl (k := 1) (by kernel_rfl) rfl
  obtain ⟨a6, h6⟩ := Opn.field (Opn.int Try.underlying3) (by rw [hxl]; decide) e6
  have e7 : DataW.trod enc Try.prog w 0 sp hd n 3 [c7] = xs[7]? := Opn.part hf rfl rfl rfl (k := 1) (by kernel_rfl) rfl
  obtain ⟨a7, h7⟩ := Opn.field (Opn.int Try.underlying3) (by rw [hxl]; decide) e7
  have e8 : DataW.trod enc Try.prog w 0 sp hd n 23 [c8] = xs[8]? := Opn.part hf rfl rfl rfl (k := 1) (by kernel_rfl) rfl
  obtain ⟨a8, h8⟩ := Opn.field (Opn.list (τ := wrapR) Try.underlying23 (by kernel_rfl) (by decide) opn_62) (by rw [hxl]; decide) e8
  obtain ⟨q, rh0⟩ := h0; simp only [List.cons.injEq, and_true] at q; subst q
  obtain ⟨q, rh1⟩ := h1; simp only [List.cons.injEq, and_true] at q; subst q
  obtain ⟨q, rh2⟩ := h2; simp only [List.cons.injEq, and_true] at q; subst q
  obtain ⟨vh3, q, oh3, rh3⟩ := h3; simp only [List.cons.injEq, and_true] at q; subst q
  obtain ⟨vh4, q, oh4, rh4⟩ := h4; simp only [List.cons.injEq, and_true] at q; subst q
  obtain ⟨q, rh5⟩ := h5; simp only [List.cons.injEq, and_true] at q; subst q
  obtain ⟨q, rh6⟩ := h6; simp only [List.cons.injEq, and_true] at q; subst q
  obtain ⟨q, rh7⟩ := h7; simp only [List.cons.injEq, and_true] at q; subst q
  obtain ⟨vh8, q, oh8, rh8⟩ := h8; simp only [List.cons.injEq, and_true] at q; subst q
  exact ⟨⟨a0, a1, a2, a3, a4, a5, a6, a7, a8⟩, ⟨_, _, _, rfl, rh0, rh1, rh2, ⟨oh3, rh3⟩, ⟨oh4, rh4⟩, rh5, rh6, rh7, ⟨oh8, rh8⟩⟩⟩
set_option maxRecDepth 100000 in
set_option maxHeartbeats 4000000 in
theorem SealedMarks_w (c0 : List Value) (e : Entry) (v1 : Value) (secret : List UInt8) (v2 : Value) (mark : List UInt8) (I : Gh) (R : List HP) (w : World) (S : Sat w I (R)) (Q0 : RoB I v1 secret) (Q1 : RoB I v2 mark) (he : entR.r I c0 e) : Ret Try.prog 4 [.agg c0.toArray, v1, v2] w fun v w' => ∃ J : Gh, Gh.le I J ∧ .bool true = v ∧ Sat w' J (R) := by
  have lq0 := RoB.le Q0 S.le
  have lq1 := RoB.le Q1 S.le
  obtain ⟨v14, v17, v23, rfl, r11, r12, r13, ⟨o15, H16⟩, ⟨o18, H19⟩, r20, r21, r22, ⟨o24, H25⟩⟩ := he
  refine ret_E Try.func4 rfl Try.ntmps4 (by simp) ?_
  refine EC_seq ?_
  refine EC_reg ?_
  refine EL_box [.int .i64 e.kind, .int .i64 e.writer, .int .i64 e.seq, v14, v17, .int .i64 e.who, .int .i64 e.rights, .int .i64 e.epoch, v23] rfl rfl rfl ?_
  intro b26 w27 k28 A29 B30 z31
  have S32 := S.newB B30 A29 k28
  refine EL_val (.bool false) w27 rfl (r_assign rfl) ?_
  refine EL_nil ?_
  refine thn_n ?_
  refine EC_seq ?_
  refine EC_seq ?_
  refine EC_reg ?_
  refine EL_ret _ rfl Try.func9 rfl nm9 rfl (anchor_c I _ _ S32) ?_
  rintro _ w33 ⟨I35, le36, rfl, S34⟩
  refine EL_val (.bool false) w33 rfl (r_dec (show (!true) = false from rfl) (r_not rfl)) ?_
  refine EL_nil ?_
  refine thn_n ?_
  refine EC_cond_false rfl ?_
  refine EC_skip ?_
  refine thn_n ?_
  refine EC_seq ?_
  refine EC_seq ?_
  rcases (by cases smallE e <;> cases e.right <;> simp : smallE e = false ∨ (smallE e = true ∧ e.right = false) ∨ (smallE e = true ∧ e.right = true)) with hsm | hsm | hsm
  · refine EC_reg ?_
    refine EL_val (.agg ([.int .i64 e.kind, .int .i64 e.writer, .int .i64 e.seq, v14, v17, .int .i64 e.who, .int .i64 e.rights, .int .i64 e.epoch, v23]).toArray) w33 rfl (r_loadAll rfl (S34.arr 0 rfl) Try.underlying25 rfl (by kernel_rfl)) ?_
    refine EL_ret _ rfl Try.func10 rfl nm10 rfl (Small_c [.int .i64 e.kind, .int .i64 e.writer, .int .i64 e.seq, v14, v17, .int .i64 e.who, .int .i64 e.rights, .int .i64 e.epoch, v23] e I35 _ _ S34 ⟨v14, v17, v23, rfl, (by first | assumption | omega | (dsimp only; omega)), (by first | assumption | omega | (dsimp only; omega)), (by first | assumption | omega | (dsimp only; omega)), ⟨o15, (H16.up le36)⟩, ⟨o18, (H19.up le36)⟩, (by first | assumption | omega | (dsimp only; omega)), (by first | assumption | omega | (dsimp only; omega)), (by first | assumption | omega | (dsimp only; omega)), ⟨o24, (H25.up le36)⟩⟩) ?_
    rintro _ w37 ⟨rfl, S38⟩
    refine EL_val (.bool true) w37 rfl (r_dec (show (!false) = true from rfl) (r_not (Eq.trans (show _ = Value.bool (smallE e) from rfl) (congrArg Value.bool (show (smallE e) = false from hsm))))) ?_
    refine EL_val (.bool true) w37 rfl (r_move rfl) ?_
    refine EL_pass 25 rfl rfl rfl rfl rfl ?_
    refine EL_pass 25 rfl rfl rfl rfl rfl ?_
    refine EL_pass 25 rfl rfl rfl rfl rfl ?_
    refine EL_val (.bool true) w37 rfl (r_pickT rfl rfl) ?_
    refine EL_val (.bool true) w37 rfl (r_move rfl) ?_
    refine EL_pass 30 rfl rfl rfl rfl rfl ?_
    refine EL_pass 30 rfl rfl rfl rfl rfl ?_
    refine EL_pass 30 rfl rfl rfl rfl rfl ?_
    refine EL_val (.bool true) w37 rfl (r_pickT rfl rfl) ?_
    refine EL_val (.bool true) w37 rfl (r_move rfl) ?_
    refine EL_pass 35 rfl rfl rfl rfl rfl ?_
    refine EL_pass 35 rfl rfl rfl rfl rfl ?_
    refine EL_pass 35 rfl rfl rfl rfl rfl ?_
    refine EL_val (.bool true) w37 rfl (r_pickT rfl rfl) ?_
    refine EL_nil ?_
    refine thn_n ?_
    refine EC_cond_true rfl ?_
    refine EC_seq ?_
    refine EC_reg ?_
    refine EL_val (.bool true) w37 rfl (r_assign rfl) ?_
    refine EL_nil ?_
    refine thn_n ?_
    refine EC_ret ?_
    refine thn_r ?_
    refine fin1 Try.results4 (show _ = .bool true from rfl) ⟨_, rfl, ?_⟩
    have S39 := S38.dr0
    exact ⟨I35, le36, rfl, S39⟩
  · refine EC_reg ?_
    refine EL_val (.agg ([.int .i64 e.kind, .int .i64 e.writer, .int .i64 e.seq, v14, v17, .int .i64 e.who, .int .i64 e.rights, .int .i64 e.epoch, v23]).toArray) w33 rfl (r_loadAll rfl (S34.arr 0 rfl) Try.underlying25 rfl (by kernel_rfl)) ?_
    refine EL_ret _ rfl Try.func10 rfl nm10 rfl (Small_c [.int .i64 e.kind, .int .i64 e.writer, .int .i64 e.seq, v14, v17, .int .i64 e.who, .int .i64 e.rights, .int .i64 e.epoch, v23] e I35 _ _ S34 ⟨v14, v17, v23, rfl, (by first | assumption | omega | (dsimp only; omega)), (by first | assumption | omega | (dsimp only; omega)), (by first | assumption | omega | (dsimp only; omega)), ⟨o15, (H16.up le36)⟩, ⟨o18, (H19.up le36)⟩, (by first | assumption | omega | (dsimp only; omega)), (by first | assumption | omega | (dsimp only; omega)), (by first | assumption | omega | (dsimp only; omega)), ⟨o24, (H25.up le36)⟩⟩) ?_
    rintro _ w40 ⟨rfl, S41⟩
    refine EL_val (.bool false) w40 rfl (r_dec (show (!true) = false from rfl) (r_not (Eq.trans (show _ = Value.bool (smallE e) from rfl) (congrArg Value.bool (show (smallE e) = true from hsm.1))))) ?_
    refine EL_val (.bool false) w40 rfl (r_move rfl) ?_
    refine EL_gval 25 rfl rfl rfl rfl (.agg ([.int .i64 e.kind, .int .i64 e.writer, .int .i64 e.seq, v14, v17, .int .i64 e.who, .int .i64 e.rights, .int .i64 e.epoch, v23]).toArray) w40 rfl (r_loadAll rfl (S41.arr 0 rfl) Try.underlying25 rfl (by kernel_rfl)) ?_
    refine EL_gret 25 rfl rfl rfl rfl _ rfl Try.func19 rfl nm19 rfl (Right_c [.int .i64 e.kind, .int .i64 e.writer, .int .i64 e.seq, v14, v17, .int .i64 e.who, .int .i64 e.rights, .int .i64 e.epoch, v23] e I35 _ _ S41 ⟨v14, v17, v23, rfl, (by first | assumption | omega | (dsimp only; omega)), (by first | assumption | omega | (dsimp only; omega)), (by first | assumption | omega | (dsimp only; omega)), ⟨o15, (H16.up le36)⟩, ⟨o18, (H19.up le36)⟩, (by first | assumption | omega | (dsimp only; omega)), (by first | assumption | omega | (dsimp only; omega)), (by first | assumption | omega | (dsimp only; omega)), ⟨o24, (H25.up le36)⟩⟩) ?_
    rintro _ w42 ⟨I44, le45, rfl, S43⟩
    refine EL_gval 25 rfl rfl rfl rfl (.bool true) w42 rfl (r_dec (show (!false) = true from rfl) (r_not (Eq.trans (show _ = Value.bool (e.right) from rfl) (congrArg Value.bool (show (e.right) = false from hsm.2))))) ?_
    refine EL_val (.bool true) w42 rfl (r_pickF rfl rfl) ?_
    refine EL_val (.bool true) w42 rfl (r_move rfl) ?_
    refine EL_pass 30 rfl rfl rfl rfl rfl ?_
    refine EL_pass 30 rfl rfl rfl rfl rfl ?_
    refine EL_pass 30 rfl rfl rfl rfl rfl ?_
    refine EL_val (.bool true) w42 rfl (r_pickT rfl rfl) ?_
    refine EL_val (.bool true) w42 rfl (r_move rfl) ?_
    refine EL_pass 35 rfl rfl rfl rfl rfl ?_
    refine EL_pass 35 rfl rfl rfl rfl rfl ?_
    refine EL_pass 35 rfl rfl rfl rfl rfl ?_
    refine EL_val (.bool true) w42 rfl (r_pickT rfl rfl) ?_
    refine EL_nil ?_
    refine thn_n ?_
    refine EC_cond_true rfl ?_
    refine EC_seq ?_
    refine EC_reg ?_
    refine EL_val (.bool true) w42 rfl (r_assign rfl) ?_
    refine EL_nil ?_
    refine thn_n ?_
    refine EC_ret ?_
    refine thn_r ?_
    refine fin1 Try.results4 (show _ = .bool true from rfl) ⟨_, rfl, ?_⟩
    have S46 := S43.dr0
    exact ⟨I44, (Gh.le_trans le36 le45), rfl, S46⟩
  · have hsa := small_iff.1 hsm.1
    have hla := encB_len hsm.2
    have hrh := right_head hsm.2
    refine EC_reg ?_
    refine EL_val (.agg ([.int .i64 e.kind, .int .i64 e.writer, .int .i64 e.seq, v14, v17, .int .i64 e.who, .int .i64 e.rights, .int .i64 e.epoch, v23]).toArray) w33 rfl (r_loadAll rfl (S34.arr 0 rfl) Try.underlying25 rfl (by kernel_rfl)) ?_
    refine EL_ret _ rfl Try.func10 rfl nm10 rfl (Small_c [.int .i64 e.kind, .int .i64 e.writer, .int .i64 e.seq, v14, v17, .int .i64 e.who, .int .i64 e.rights, .int .i64 e.epoch, v23] e I35 _ _ S34 ⟨v14, v17, v23, rfl, (by first | assumption | omega | (dsimp only; omega)), (by first | assumption | omega | (dsimp only; omega)), (by first | assumption | omega | (dsimp only; omega)), ⟨o15, (H16.up le36)⟩, ⟨o18, (H19.up le36)⟩, (by first | assumption | omega | (dsimp only; omega)), (by first | assumption | omega | (dsimp only; omega)), (by first | assumption | omega | (dsimp only; omega)), ⟨o24, (H25.up le36)⟩⟩) ?_
    rintro _ w47 ⟨rfl, S48⟩
    refine EL_val (.bool false) w47 rfl (r_dec (show (!true) = false from rfl) (r_not (Eq.trans (show _ = Value.bool (smallE e) from rfl) (congrArg Value.bool (show (smallE e) = true from hsm.1))))) ?_
    refine EL_val (.bool false) w47 rfl (r_move rfl) ?_
    refine EL_gval 25 rfl rfl rfl rfl (.agg ([.int .i64 e.kind, .int .i64 e.writer, .int .i64 e.seq, v14, v17, .int .i64 e.who, .int .i64 e.rights, .int .i64 e.epoch, v23]).toArray) w47 rfl (r_loadAll rfl (S48.arr 0 rfl) Try.underlying25 rfl (by kernel_rfl)) ?_
    refine EL_gret 25 rfl rfl rfl rfl _ rfl Try.func19 rfl nm19 rfl (Right_c [.int .i64 e.kind, .int .i64 e.writer, .int .i64 e.seq, v14, v17, .int .i64 e.who, .int .i64 e.rights, .int .i64 e.epoch, v23] e I35 _ _ S48 ⟨v14, v17, v23, rfl, (by first | assumption | omega | (dsimp only; omega)), (by first | assumption | omega | (dsimp only; omega)), (by first | assumption | omega | (dsimp only; omega)), ⟨o15, (H16.up le36)⟩, ⟨o18, (H19.up le36)⟩, (by first | assumption | omega | (dsimp only; omega)), (by first | assumption | omega | (dsimp only; omega)), (by first | assumption | omega | (dsimp only; omega)), ⟨o24, (H25.up le36)⟩⟩) ?_
    rintro _ w49 ⟨I51, le52, rfl, S50⟩
    refine EL_gval 25 rfl rfl rfl rfl (.bool false) w49 rfl (r_dec (show (!true) = false from rfl) (r_not (Eq.trans (show _ = Value.bool (e.right) from rfl) (congrArg Value.bool (show (e.right) = true from hsm.2))))) ?_
    refine EL_val (.bool false) w49 rfl (r_pickF rfl rfl) ?_
    refine EL_val (.bool false) w49 rfl (r_move rfl) ?_
    refine EL_gval 30 rfl rfl rfl rfl v1 w49 rfl (r_move rfl) ?_
    refine EL_gval 30 rfl rfl rfl rfl (.int .i64 (secret.length : Int)) w49 rfl (lenB (r_len rfl (Q0 _ (Gh.le_trans (Gh.le_trans le36 le52) S50.le)) Try.underlying22)) ?_
    refine EL_gval 30 rfl rfl rfl rfl (.bool (decide (100 < (secret.length : Int)))) w49 rfl (r_gtr rfl rfl) ?_
    refine EL_val (.bool (decide (100 < (secret.length : Int)))) w49 rfl (r_pickF rfl rfl) ?_
    refine EL_val (.bool (decide (100 < (secret.length : Int)))) w49 rfl (r_move rfl) ?_
    refine EL_gite 35 rfl rfl rfl v2 rfl (fun g53 => r_move rfl) ?_
    refine EL_gite 35 rfl rfl rfl (.int .i64 (mark.length : Int)) rfl (fun g54 => lenB (r_len (cond_of g54 rfl) (Q1 _ (Gh.le_trans (Gh.le_trans le36 le52) S50.le)) Try.underlying22)) ?_
    refine EL_gite 35 rfl rfl rfl (.bool (decide (100 < (mark.length : Int)))) rfl (fun g55 => r_gtr (cond_of g55 rfl) rfl) ?_
    refine EL_val (.bool ((decide (100 < (secret.length : Int))) || (decide (100 < (mark.length : Int))))) w49 rfl (r_or rfl rfl rfl) ?_
    refine EL_nil ?_
    refine thn_n ?_
    refine EC_cond (t := (decide (100 < (secret.length : Int))) || (decide (100 < (mark.length : Int)))) rfl (fun h56 => ?_) (fun h56 => ?_)
    · refine EC_seq ?_
      refine EC_reg ?_
      refine EL_val (.bool true) w49 rfl (r_assign rfl) ?_
      refine EL_nil ?_
      refine thn_n ?_
      refine EC_ret ?_
      refine thn_r ?_
      refine fin1 Try.results4 (show _ = .bool true from rfl) ⟨_, rfl, ?_⟩
      have S57 := S50.dr0
      exact ⟨I51, (Gh.le_trans le36 le52), rfl, S57⟩
    · have hg : secret.length ≤ 100 ∧ mark.length ≤ 100 := by simp at h56; omega
      refine EC_skip ?_
      refine thn_n ?_
      refine EC_seq ?_
      refine EC_reg ?_
      refine EL_ret _ rfl Try.func15 rfl nm15 rfl (Signs_c I51 _ _ S50) ?_
      rintro _ w58 ⟨p60, rfl, S59⟩
      refine EL_val p60 w58 rfl (r_assign rfl) ?_
      refine EL_nil ?_
      refine thn_n ?_
      refine EC_seq ?_
      refine EC_reg ?_
      refine EL_val p60 w58 rfl (r_move rfl) ?_
      refine EL_ret _ rfl Try.func17 rfl nm17 rfl (Key_c p60 ([] : List Thing) I51 _ _ S59 (by first | assumption | omega | (simp; done) | (simp; omega))) ?_
      rintro _ w61 ⟨v63, rfl, S62⟩
      have q65 : signOf 75 ((([] : List Thing).length : Int) + 1) = signOf 75 1 := rfl
      have S64 := S62.ab0 q65
      have q67 : ([] : List Thing) ++ [tKey] = [tKey] := rfl
      have S66 := Sat.ah1 (Suite p60) S64 q67
      refine EL_val v63 w61 rfl (r_assign rfl) ?_
      refine EL_nil ?_
      refine thn_n ?_
      refine EC_seq ?_
      refine EC_reg ?_
      refine EL_val (ptr b26 1) w61 rfl (r_fieldP (o := 0) (s := 1) rfl Try.underlying25 rfl (by kernel_rfl) (by decide) rfl) ?_
      refine EL_val (.int .i64 e.writer) w61 rfl (r_loadA rfl (S66.arr 2 rfl) (u := (.int .i64 e.writer)) rfl Try.underlying3 rfl) ?_
      refine EL_val (.agg ([.int .i64 1, .int .i64 0, .int .i64 e.writer, .int .i64 1, .slice none 0 0]).toArray) w61 rfl (r_buildS (l := [(0, .int .i64 1), (2, .int .i64 e.writer), (3, .int .i64 1)]) st_27 (parts3 rfl rfl rfl) (Eq.trans (show Instr.fill _ _ [(0, .int .i64 1), (2, .int .i64 e.writer), (3, .int .i64 1)] = _ from (fill_one rfl rfl rfl (fill_one rfl rfl rfl (fill_one rfl rfl rfl fill_end)))) (by kernel_rfl))) ?_
      refine EL_alloc (z := .agg #[.int .i64 0, .int .i64 0, .int .i64 0, .int .i64 0, .slice none 0 0]) [.int .i64 0, .int .i64 0, .int .i64 0, .int .i64 0, .slice none 0 0] rfl (by kernel_rfl) rfl ?_
      intro b68 w69 k70 A71 B72 z73
      have S74 := S66.newB B72 A71 k70
      refine EL_storeAll (v := .agg ([.int .i64 1, .int .i64 0, .int .i64 e.writer, .int .i64 1, .slice none 0 0]).toArray) (cs' := ([.int .i64 1, .int .i64 0, .int .i64 e.writer, .int .i64 1, .slice none 0 0]).toArray) rfl rfl rfl (S74.arr 0 rfl) rfl (by kernel_rfl) (by simp [Value.oneCell']) ?_
      intro w75 A76 K77 z78
      have S79 := S74.wr0 (ds := [.int .i64 1, .int .i64 0, .int .i64 e.writer, .int .i64 1, .slice none 0 0]) K77 A76
      refine EL_nil ?_
      refine thn_n ?_
      refine EC_seq ?_
      refine EC_reg ?_
      refine EL_val (.agg ([.int .i64 e.kind, .int .i64 e.writer, .int .i64 e.seq, v14, v17, .int .i64 e.who, .int .i64 e.rights, .int .i64 e.epoch, v23]).toArray) w75 rfl (r_loadAll rfl (S79.arr 3 rfl) Try.underlying25 rfl (by kernel_rfl)) ?_
      refine EL_ret _ rfl Try.func11 rfl nm11 rfl (MEntry_c [.int .i64 e.kind, .int .i64 e.writer, .int .i64 e.seq, v14, v17, .int .i64 e.who, .int .i64 e.rights, .int .i64 e.epoch, v23] e I51 _ _ S79 ⟨v14, v17, v23, rfl, (by first | assumption | omega | (dsimp only; omega)), (by first | assumption | omega | (dsimp only; omega)), (by first | assumption | omega | (dsimp only; omega)), ⟨o15, (H16.up (Gh.le_trans le36 le52))⟩, ⟨o18, (H19.up (Gh.le_trans le36 le52))⟩, (by first | assumption | omega | (dsimp only; omega)), (by first | assumption | omega | (dsimp only; omega)), (by first | assumption | omega | (dsimp only; omega)), ⟨o24, (H25.up (Gh.le_trans le36 le52))⟩⟩ (by omega)) ?_
      rintro _ w80 ⟨cs82, I83, le84, rfl, h85, S81⟩
      obtain ⟨v89, v92, v98, rfl, r86, r87, r88, ⟨o90, H91⟩, ⟨o93, H94⟩, r95, r96, r97, ⟨o99, H100⟩⟩ := h85
      refine EL_alloc (z := .agg #[.int .i64 0, .int .i64 0, .int .i64 0, .slice none 0 0, .slice none 0 0, .int .i64 0, .int .i64 0, .int .i64 0, .slice none 0 0]) [.int .i64 0, .int .i64 0, .int .i64 0, .slice none 0 0, .slice none 0 0, .int .i64 0, .int .i64 0, .int .i64 0, .slice none 0 0] rfl (by kernel_rfl) rfl ?_
      intro b101 w102 k103 A104 B105 z106
      have S107 := S81.newB B105 A104 k103
      refine EL_storeAll (v := .agg ([.int .i64 e.kind, .int .i64 e.writer, .int .i64 e.seq, v89, v92, .int .i64 e.who, .int .i64 e.rights, .int .i64 e.epoch, v98]).toArray) (cs' := ([.int .i64 e.kind, .int .i64 e.writer, .int .i64 e.seq, v89, v92, .int .i64 e.who, .int .i64 e.rights, .int .i64 e.epoch, v98]).toArray) rfl rfl rfl (S107.arr 0 rfl) rfl (by kernel_rfl) (ones_cons rfl (ones_cons rfl (ones_cons rfl (ones_cons o90 (ones_cons o93 (ones_cons rfl (ones_cons rfl (ones_cons rfl (ones_cons o99 (fun _ h => nomatch h)))))))))) ?_
      intro w108 A109 K110 z111
      have S112 := S107.wr0 (ds := [.int .i64 e.kind, .int .i64 e.writer, .int .i64 e.seq, v89, v92, .int .i64 e.who, .int .i64 e.rights, .int .i64 e.epoch, v98]) K110 A109
      refine EL_nil ?_
      refine thn_n ?_
      refine EC_seq ?_
      refine EC_reg ?_
      refine EL_val (.agg ([.int .i64 e.kind, .int .i64 e.writer, .int .i64 e.seq, v89, v92, .int .i64 e.who, .int .i64 e.rights, .int .i64 e.epoch, v98]).toArray) w108 rfl (r_loadAll rfl (S112.arr 0 rfl) Try.underlying32 rfl (by kernel_rfl)) ?_
      refine EL_ret _ rfl Try.func14 rfl nm14 rfl (Bytes9_c [.int .i64 e.kind, .int .i64 e.writer, .int .i64 e.seq, v89, v92, .int .i64 e.who, .int .i64 e.rights, .int .i64 e.epoch, v98] e I83 _ _ S112 ⟨v89, v92, v98, rfl, (by first | assumption | omega | (dsimp only; omega)), (by first | assumption | omega | (dsimp only; omega)), (by first | assumption | omega | (dsimp only; omega)), ⟨o90, H91⟩, ⟨o93, H94⟩, (by first | assumption | omega | (dsimp only; omega)), (by first | assumption | omega | (dsimp only; omega)), (by first | assumption | omega | (dsimp only; omega)), ⟨o99, H100⟩⟩ hsm.2) ?_
      rintro _ w113 ⟨v115, I116, le117, rfl, S114⟩
      obtain ⟨I118, le119, S120, H121⟩ := S114.fb0
      refine EL_ret _ rfl Try.func20 rfl nm20 rfl (Text8_c v115 e.encB I118 _ _ S120 H121 (by omega)) ?_
      rintro _ w122 ⟨v124, rfl, S123⟩
      have hl125 : (be2 (e.encB.length : Int)).length = 2 := rfl
      refine EL_val v2 w122 rfl (r_move rfl) ?_
      refine EL_ret _ rfl Try.func20 rfl nm20 rfl (Text8_c v2 mark I118 _ _ S123 (Q1.up (Gh.le_trans (Gh.le_trans (Gh.le_trans (Gh.le_trans le36 le52) le84) le117) le119)) (by omega)) ?_
      rintro _ w126 ⟨v128, rfl, S127⟩
      have hl129 : (be2 (mark.length : Int)).length = 2 := rfl
      refine EL_append (v := v124) (xs := (be2 (e.encB.length : Int) ++ e.encB).map byt) (ys := (be2 (mark.length : Int) ++ mark).map byt) 0 elB rfl rfl rfl (own_len (S127.own 1 rfl)) (own_row (S127.own 0 rfl)) (byt_one _) (by first | (simp only [List.length_map, List.length_nil, List.length_append]; omega) | (simp; done) | (simp; omega)) (by decide) (Nat.zero_le _) ?_
      intro v130 w131 O132 G133 A134
      have S135 := S127.gb1 G133 (own_app O132) A134
      refine EL_val v130 w131 rfl (r_assign rfl) ?_
      refine EL_nil ?_
      refine thn_n ?_
      refine EC_seq ?_
      refine EC_seq ?_
      have q137 : (be2 (e.encB.length : Int) ++ e.encB) ++ (be2 (mark.length : Int) ++ mark) = twoT e.encB mark := rfl
      have S136 := S135.ab1 q137
      have hpl := twoT_len e.encB mark
      skip
      · refine EC_reg ?_
        refine EL_val v130 w131 rfl (r_move rfl) ?_
        refine EL_val (.int .i64 ((twoT e.encB mark).length : Int)) w131 rfl (lenB (r_len rfl (own_row (S136.own 1 rfl)) Try.underlying22)) ?_
        refine EL_ret _ rfl Try.func13 rfl nm13 rfl (Size13_c ((twoT e.encB mark).length : Int) I118 _ _ S136 (by omega)) ?_
        rintro _ w138 ⟨rfl, S139⟩
        refine EL_val (.bool (decide ((bsize ((twoT e.encB mark).length : Int)) = 0))) w138 rfl (r_eql rfl rfl) ?_
        refine EL_nil ?_
        refine thn_n ?_
        refine EC_if (p := (bsize ((twoT e.encB mark).length : Int)) = 0) rfl (fun h140 => ?_) (fun h140 => ?_)
        · refine EC_seq ?_
          refine EC_reg ?_
          refine EL_val (.bool true) w138 rfl (r_assign rfl) ?_
          refine EL_nil ?_
          refine thn_n ?_
          refine EC_ret ?_
          refine thn_r ?_
          refine fin1 Try.results4 (show _ = .bool true from rfl) ⟨_, rfl, ?_⟩
          have S141 := S139.dr0
          have S142 := S141.dr0
          have S143 := S142.dr0
          have S144 := S143.dr0
          have S145 := S144.dr0
          have S146 := S145.dr0
          have S147 := S146.dr0
          exact ⟨I118, (Gh.le_trans (Gh.le_trans (Gh.le_trans (Gh.le_trans le36 le52) le84) le117) le119), rfl, S147⟩
        · refine EC_skip ?_
          refine thn_n ?_
          refine EC_seq ?_
          refine EC_any 14 (fun w' => Gh.le I118 (gh w')) (fun w' => Arr w' b68 27 [.int .i64 1, .int .i64 0, .int .i64 e.writer, .int .i64 1, .slice none 0 0]) (by kernel_rfl) ?_
          intro w148 B149
          have S150 := S139.below B149
          refine EJ_take 0 rfl (by kernel_rfl) (by kernel_rfl) (by kernel_rfl) rfl (by kernel_rfl) p60 rfl (fun _ hw ht => r_move rfl) ⟨S150.le, fun h => S150.arr 3 rfl⟩ ?_
          refine EJ_take 1 rfl (by kernel_rfl) (by kernel_rfl) (by kernel_rfl) rfl (by kernel_rfl) v63 rfl (fun _ hw ht => r_move rfl) ⟨S150.le, fun h => S150.arr 3 rfl⟩ ?_
          refine EJ_take 2 rfl (by kernel_rfl) (by kernel_rfl) (by kernel_rfl) rfl (by kernel_rfl) (ptr b68 2) rfl (fun _ hw ht => r_fieldP (o := 0) (s := 1) rfl Try.underlying27 rfl (by kernel_rfl) (by decide) rfl) ⟨S150.le, fun h => S150.arr 3 rfl⟩ ?_
          refine EJ_take 3 rfl (by kernel_rfl) (by kernel_rfl) (by kernel_rfl) rfl (by kernel_rfl) (.int .i64 e.writer) rfl (fun _ hw ht => r_loadA rfl ht (u := (.int .i64 e.writer)) rfl Try.underlying3 rfl) ⟨S150.le, fun h => S150.arr 3 rfl⟩ ?_
          refine EJ_take 5 rfl (by kernel_rfl) (by kernel_rfl) (by kernel_rfl) rfl (by kernel_rfl) (.agg ([.int .i64 1, .int .i64 0, .int .i64 e.writer, .int .i64 1, .slice none 0 0]).toArray) rfl (fun _ hw ht => r_loadAll rfl ht Try.underlying27 rfl (by kernel_rfl)) ⟨S150.le, fun h => S150.arr 3 rfl⟩ ?_
          refine EJ_take 7 rfl (by kernel_rfl) (by kernel_rfl) (by kernel_rfl) rfl (by kernel_rfl) v130 rfl (fun _ hw ht => r_move rfl) ⟨S150.le, fun h => S150.arr 3 rfl⟩ ?_
          refine EJ_one 4 (by kernel_rfl) ⟨_, rfl, ?_⟩
          refine EL_ret _ rfl Try.func22 rfl nm22 rfl (Nonce14_c e.writer 1 I118 _ _ S150 (by omega) (by decide)) ?_
          rintro _ w151 ⟨v153, rfl, S152⟩
          refine EL_nil ?_
          refine ⟨rfl, ⟨S152.le, fun h => S152.arr 4 rfl⟩, ?_⟩
          refine EJ_one 6 (by kernel_rfl) ⟨_, rfl, ?_⟩
          refine EL_ret _ rfl Try.func23 rfl nm23 rfl (Front15_c [.int .i64 1, .int .i64 0, .int .i64 e.writer, .int .i64 1, .slice none 0 0] (⟨1, 0, e.writer, 1, []⟩ : Record) I118 _ _ S152 ⟨(.slice none 0 0), rfl, (by first | assumption | omega | (dsimp only; omega)), (by first | assumption | omega | (dsimp only; omega)), (by first | assumption | omega | (dsimp only; omega)), (by first | assumption | omega | (dsimp only; omega)), ⟨rfl, Ro.nil⟩⟩ (by rw [nums_iff]; dsimp only; omega)) ?_
          rintro _ w154 ⟨v156, rfl, S155⟩
          refine EL_nil ?_
          refine ⟨rfl, ⟨S155.le, fun h => S155.arr 5 rfl⟩, ?_⟩
          refine EJ_one 8 (by kernel_rfl) ⟨_, rfl, ?_⟩
          obtain ⟨I157, le158, S159, H160⟩ := S155.fb3
          refine EL_ret _ rfl Try.func24 rfl nm24 rfl (Pad13_c v130 (twoT e.encB mark) I157 _ _ S159 H160 (by omega)) ?_
          rintro _ w161 ⟨v163, rfl, S162⟩
          refine EL_nil ?_
          refine ⟨rfl, ⟨(Gh.le_trans le158 S162.le), fun h => S162.arr 5 rfl⟩, ?_⟩
          refine EJ_strong (fun w' => Gh.le I157 (gh w')) _ (fun w' hw => Gh.le_trans le158 hw) (fun w' _ ht => ht) ?_
          refine EJ_one 9 (by kernel_rfl) ⟨_, rfl, ?_⟩
          obtain ⟨I164, le165, S166, H167⟩ := S162.fb6
          obtain ⟨I168, le169, S170, H171⟩ := S166.fb2
          obtain ⟨I172, le173, S174, H175⟩ := S170.fb1
          obtain ⟨I176, le177, S178, H179⟩ := S174.fb0
          have S180 := S178.fr3
          refine EL_ret _ rfl Try.func21 rfl nm21 rfl (SealOk_c p60 [tKey] v63 (signOf 75 1) v153 (be6 e.writer ++ be6 1) v156 ((⟨1, 0, e.writer, 1, []⟩ : Record).front) v163 (bpad (twoT e.encB mark)) I176 _ _ S180 (H167.up (Gh.le_trans (Gh.le_trans le169 le173) le177)) (H171.up (Gh.le_trans le173 le177)) (H175.up le177) H179 (by simp) (by decide) (by simp [be6]) (Nat.le_trans (front_le _) (by decide)) (by have := bpad_most (b := twoT e.encB mark) (by omega); omega) (szOk_iff.2 ⟨rfl, rfl⟩)) ?_
          rintro _ w181 ⟨v183, rfl, S182⟩
          have q185 : boxOf (([tKey].length : Int) + 1) (bpad (twoT e.encB mark)).length = boxOf 2 (bpad (twoT e.encB mark)).length := rfl
          have S184 := S182.ab0 q185
          have hmk := marks15 (s := secret) (m := mark) (k := signOf 75 1) hsm.2 (by omega) rfl rfl rfl
          refine EL_nil ?_
          refine ⟨rfl, ⟨(Gh.le_trans (Gh.le_trans (Gh.le_trans (Gh.le_trans le165 le169) le173) le177) S184.le), fun h => S184.arr 4 rfl⟩, ?_⟩
          refine EJ_strong (fun w' => Gh.le I176 (gh w')) _ (fun w' hw => Gh.le_trans (Gh.le_trans (Gh.le_trans (Gh.le_trans le165 le169) le173) le177) hw) (fun w' _ ht => ht) ?_
          refine EJ_take 10 rfl (by kernel_rfl) (by kernel_rfl) (by kernel_rfl) rfl (by kernel_rfl) (.tuple #[v183, .int .i64 0]) rfl (fun _ hw ht => r_move rfl) ⟨S184.le, fun h => S184.arr 4 rfl⟩ ?_
          refine EJ_take 11 rfl (by kernel_rfl) (by kernel_rfl) (by kernel_rfl) rfl (by kernel_rfl) v183 rfl (fun _ hw ht => r_extract rfl rfl) ⟨S184.le, fun h => S184.arr 4 rfl⟩ ?_
          refine EJ_float 12 rfl (by kernel_rfl) (by kernel_rfl) (by kernel_rfl) rfl (.int .i64 0) rfl (fun _ hw => r_extract rfl rfl) ⟨S184.le, fun h => S184.arr 4 rfl⟩ ?_
          refine EJ_take 13 rfl (by kernel_rfl) (by kernel_rfl) (by kernel_rfl) rfl (by kernel_rfl) (ptr b68 4) rfl (fun _ hw ht => r_fieldP (o := 0) (s := 1) rfl Try.underlying27 rfl (by kernel_rfl) (by decide) rfl) ⟨S184.le, fun h => S184.arr 4 rfl⟩ ?_
          refine EJ_one 14 (by kernel_rfl) ⟨_, rfl, ?_⟩
          refine EL_storeA (j := 4) (u := v183) rfl rfl (S184.arr 4 rfl) (by first | decide | (simp; omega) | simp) (own_one (S184.own 0 rfl)) (by kernel_rfl) ?_
          intro w186 A187 K188 z189
          have S190 := S184.wr4 (ds := [.int .i64 1, .int .i64 0, .int .i64 e.writer, .int .i64 1, v183]) K188 A187
          refine EL_nil ?_
          refine ⟨rfl, ⟨S190.le, fun h => by cases h⟩, ?_⟩
          refine EJ_done (by kernel_rfl) ?_
          refine thn_n ?_
          refine EC_seq ?_
          refine EC_reg ?_
          refine EL_val p60 w186 rfl (r_move rfl) ?_
          refine EL_val v1 w186 rfl (r_move rfl) ?_
          refine EL_val v63 w186 rfl (r_move rfl) ?_
          refine EL_val (.agg ([.int .i64 1, .int .i64 0, .int .i64 e.writer, .int .i64 1, v183]).toArray) w186 rfl (r_loadAll rfl (S190.arr 4 rfl) Try.underlying27 rfl (by kernel_rfl)) ?_
          refine EL_val (.agg ([.int .i64 e.kind, .int .i64 e.writer, .int .i64 e.seq, v14, v17, .int .i64 e.who, .int .i64 e.rights, .int .i64 e.epoch, v23]).toArray) w186 rfl (r_loadAll rfl (S190.arr 5 rfl) Try.underlying25 rfl (by kernel_rfl)) ?_
          obtain ⟨I191, le192, S193, H194⟩ := S190.fb0
          refine EL_ret _ rfl Try.func16 rfl nm16 rfl (RSeal_c p60 ([tKey] ++ [tBox (signOf 75 1) (be6 e.writer ++ be6 1) ((⟨1, 0, e.writer, 1, []⟩ : Record).front) (bpad (twoT e.encB mark))]) v1 secret v63 (signOf 75 1) [.int .i64 1, .int .i64 0, .int .i64 e.writer, .int .i64 1, v183] (⟨1, 0, e.writer, 1, boxOf 2 (bpad (twoT e.encB mark)).length⟩ : Record) [.int .i64 e.kind, .int .i64 e.writer, .int .i64 e.seq, v14, v17, .int .i64 e.who, .int .i64 e.rights, .int .i64 e.epoch, v23] e I191 _ _ S193 (Q0.up (Gh.le_trans (Gh.le_trans (Gh.le_trans (Gh.le_trans (Gh.le_trans (Gh.le_trans (Gh.le_trans (Gh.le_trans (Gh.le_trans (Gh.le_trans le36 le52) le84) le117) le119) le158) le165) le169) le173) le177) le192)) (H167.up (Gh.le_trans (Gh.le_trans (Gh.le_trans le169 le173) le177) le192)) ⟨v183, rfl, (by first | assumption | omega | (dsimp only; omega)), (by first | assumption | omega | (dsimp only; omega)), (by first | assumption | omega | (dsimp only; omega)), (by first | assumption | omega | (dsimp only; omega)), ⟨(row_one (H194 _ S193.le)), H194⟩⟩ ⟨v14, v17, v23, rfl, (by first | assumption | omega | (dsimp only; omega)), (by first | assumption | omega | (dsimp only; omega)), (by first | assumption | omega | (dsimp only; omega)), ⟨o15, (H16.up (Gh.le_trans (Gh.le_trans (Gh.le_trans (Gh.le_trans (Gh.le_trans (Gh.le_trans (Gh.le_trans (Gh.le_trans (Gh.le_trans (Gh.le_trans le36 le52) le84) le117) le119) le158) le165) le169) le173) le177) le192))⟩, ⟨o18, (H19.up (Gh.le_trans (Gh.le_trans (Gh.le_trans (Gh.le_trans (Gh.le_trans (Gh.le_trans (Gh.le_trans (Gh.le_trans (Gh.le_trans (Gh.le_trans le36 le52) le84) le117) le119) le158) le165) le169) le173) le177) le192))⟩, (by first | assumption | omega | (dsimp only; omega)), (by first | assumption | omega | (dsimp only; omega)), (by first | assumption | omega | (dsimp only; omega)), ⟨o24, (H25.up (Gh.le_trans (Gh.le_trans (Gh.le_trans (Gh.le_trans (Gh.le_trans (Gh.le_trans (Gh.le_trans (Gh.le_trans (Gh.le_trans (Gh.le_trans le36 le52) le84) le117) le119) le158) le165) le169) le173) le177) le192))⟩⟩ (by simp) (by omega)) ?_
          rintro _ w195 ⟨cs197, I198, le199, rfl, h200, S196⟩
          obtain ⟨own, hnown⟩ : ∃ x : Record, x = (sealRR ([tKey] ++ [tBox (signOf 75 1) (be6 e.writer ++ be6 1) ((⟨1, 0, e.writer, 1, []⟩ : Record).front) (bpad (twoT e.encB mark))]) secret (signOf 75 1) (⟨1, 0, e.writer, 1, boxOf 2 (bpad (twoT e.encB mark)).length⟩ : Record) e) := ⟨_, rfl⟩
          rw [show (sealRR ([tKey] ++ [tBox (signOf 75 1) (be6 e.writer ++ be6 1) ((⟨1, 0, e.writer, 1, []⟩ : Record).front) (bpad (twoT e.encB mark))]) secret (signOf 75 1) (⟨1, 0, e.writer, 1, boxOf 2 (bpad (twoT e.encB mark)).length⟩ : Record) e) = own from hnown.symm] at h200
          obtain ⟨v205, rfl, r201, r202, r203, r204, ⟨o206, H207⟩⟩ := h200
          obtain ⟨M, hnM⟩ : ∃ x : List Thing, x = sealRL ([tKey] ++ [tBox (signOf 75 1) (be6 e.writer ++ be6 1) ((⟨1, 0, e.writer, 1, []⟩ : Record).front) (bpad (twoT e.encB mark))]) secret (signOf 75 1) (⟨1, 0, e.writer, 1, boxOf 2 (bpad (twoT e.encB mark)).length⟩ : Record) e := ⟨_, rfl⟩
          have q209 : sealRL ([tKey] ++ [tBox (signOf 75 1) (be6 e.writer ++ be6 1) ((⟨1, 0, e.writer, 1, []⟩ : Record).front) (bpad (twoT e.encB mark))]) secret (signOf 75 1) (⟨1, 0, e.writer, 1, boxOf 2 (bpad (twoT e.encB mark)).length⟩ : Record) e = M := hnM.symm
          have S208 := Sat.ah0 (Suite p60) S196 q209
          obtain ⟨hE0, hq1, hq2, hq3, hq4, hq5, hq6, hq7, hq8, hq9, hq10, hq11, hq12, hq13⟩ := hmk
          rw [← hnM, ← hnown] at hq2 hq3 hq4 hq5 hq6
          rw [← hnM] at hq1 hq9 hq10 hq11 hq12
          rw [← hnown] at hq7 hq8 hq13
          have hT := hq12.le (show 10000 ≤ 800000000 by decide)
          have hob := right_box hq13
          refine EL_val (.tuple #[.agg ([.int .i64 own.coll, .int .i64 own.epoch, .int .i64 own.writer, .int .i64 own.count, v205]).toArray, .int .i64 (sealRE (signOf 75 1) (⟨1, 0, e.writer, 1, boxOf 2 (bpad (twoT e.encB mark)).length⟩ : Record) e)]) w195 rfl (r_move rfl) ?_
          refine EL_val (.agg ([.int .i64 own.coll, .int .i64 own.epoch, .int .i64 own.writer, .int .i64 own.count, v205]).toArray) w195 rfl (r_extract rfl rfl) ?_
          refine EL_val (.int .i64 (sealRE (signOf 75 1) (⟨1, 0, e.writer, 1, boxOf 2 (bpad (twoT e.encB mark)).length⟩ : Record) e)) w195 rfl (r_extract rfl rfl) ?_
          refine EL_alloc (z := .agg #[.int .i64 0, .int .i64 0, .int .i64 0, .int .i64 0, .slice none 0 0]) [.int .i64 0, .int .i64 0, .int .i64 0, .int .i64 0, .slice none 0 0] rfl (by kernel_rfl) rfl ?_
          intro b210 w211 k212 A213 B214 z215
          have S216 := S208.newB B214 A213 k212
          refine EL_storeAll (v := .agg ([.int .i64 own.coll, .int .i64 own.epoch, .int .i64 own.writer, .int .i64 own.count, v205]).toArray) (cs' := ([.int .i64 own.coll, .int .i64 own.epoch, .int .i64 own.writer, .int .i64 own.count, v205]).toArray) rfl rfl rfl (S216.arr 0 rfl) rfl (by kernel_rfl) (ones_cons rfl (ones_cons rfl (ones_cons rfl (ones_cons rfl (ones_cons o206 (fun _ h => nomatch h)))))) ?_
          intro w217 A218 K219 z220
          have S221 := S216.wr0 (ds := [.int .i64 own.coll, .int .i64 own.epoch, .int .i64 own.writer, .int .i64 own.count, v205]) K219 A218
          refine EL_val (.int .i64 (sealRE (signOf 75 1) (⟨1, 0, e.writer, 1, boxOf 2 (bpad (twoT e.encB mark)).length⟩ : Record) e)) w217 rfl (r_assign rfl) ?_
          refine EL_nil ?_
          refine thn_n ?_
          refine EC_seq ?_
          refine EC_reg ?_
          refine EL_val p60 w217 rfl (r_move rfl) ?_
          refine EL_val v1 w217 rfl (r_move rfl) ?_
          refine EL_val v63 w217 rfl (r_move rfl) ?_
          refine EL_val (.agg ([.int .i64 1, .int .i64 0, .int .i64 e.writer, .int .i64 1, v183]).toArray) w217 rfl (r_loadAll rfl (S221.arr 4 rfl) Try.underlying27 rfl (by kernel_rfl)) ?_
          have S222 := S221.fr1
          refine EL_ret _ rfl Try.func25 rfl nm25 rfl (ROpen_c p60 M v1 secret v63 (signOf 75 1) [.int .i64 1, .int .i64 0, .int .i64 e.writer, .int .i64 1, v183] (⟨1, 0, e.writer, 1, boxOf 2 (bpad (twoT e.encB mark)).length⟩ : Record) I198 _ _ S222 (Q0.up (Gh.le_trans (Gh.le_trans (Gh.le_trans (Gh.le_trans (Gh.le_trans (Gh.le_trans (Gh.le_trans (Gh.le_trans (Gh.le_trans (Gh.le_trans (Gh.le_trans le36 le52) le84) le117) le119) le158) le165) le169) le173) le177) le192) le199)) (H167.up (Gh.le_trans (Gh.le_trans (Gh.le_trans (Gh.le_trans le169 le173) le177) le192) le199)) ⟨v183, rfl, (by first | assumption | omega | (dsimp only; omega)), (by first | assumption | omega | (dsimp only; omega)), (by first | assumption | omega | (dsimp only; omega)), (by first | assumption | omega | (dsimp only; omega)), ⟨(row_one (H194 _ (Gh.le_trans le199 S222.le))), (H194.up le199)⟩⟩ (by omega) (by omega) hT) ?_
          rintro _ w223 ⟨cs225, I226, le227, rfl, h228, S224⟩
          obtain ⟨y, hny⟩ : ∃ x : Entry, x = (openRV M secret (signOf 75 1) (⟨1, 0, e.writer, 1, boxOf 2 (bpad (twoT e.encB mark)).length⟩ : Record)) := ⟨_, rfl⟩
          rw [show (openRV M secret (signOf 75 1) (⟨1, 0, e.writer, 1, boxOf 2 (bpad (twoT e.encB mark)).length⟩ : Record)) = y from hny.symm] at h228
          obtain ⟨v232, v235, v241, rfl, r229, r230, r231, ⟨o233, H234⟩, ⟨o236, H237⟩, r238, r239, r240, ⟨o242, H243⟩⟩ := h228
          have q245 : openRL M secret (signOf 75 1) (⟨1, 0, e.writer, 1, boxOf 2 (bpad (twoT e.encB mark)).length⟩ : Record) = M := hq1
          have S244 := Sat.ah0 (Suite p60) S224 q245
          refine EL_val (.tuple #[.agg ([.int .i64 y.kind, .int .i64 y.writer, .int .i64 y.seq, v232, v235, .int .i64 y.who, .int .i64 y.rights, .int .i64 y.epoch, v241]).toArray, .int .i64 (openRE M secret (signOf 75 1) (⟨1, 0, e.writer, 1, boxOf 2 (bpad (twoT e.encB mark)).length⟩ : Record))]) w223 rfl (r_move rfl) ?_
          refine EL_val (.agg ([.int .i64 y.kind, .int .i64 y.writer, .int .i64 y.seq, v232, v235, .int .i64 y.who, .int .i64 y.rights, .int .i64 y.epoch, v241]).toArray) w223 rfl (r_extract rfl rfl) ?_
          refine EL_val (.int .i64 (openRE M secret (signOf 75 1) (⟨1, 0, e.writer, 1, boxOf 2 (bpad (twoT e.encB mark)).length⟩ : Record))) w223 rfl (r_extract rfl rfl) ?_
          refine EL_alloc (z := .agg #[.int .i64 0, .int .i64 0, .int .i64 0, .slice none 0 0, .slice none 0 0, .int .i64 0, .int .i64 0, .int .i64 0, .slice none 0 0]) [.int .i64 0, .int .i64 0, .int .i64 0, .slice none 0 0, .slice none 0 0, .int .i64 0, .int .i64 0, .int .i64 0, .slice none 0 0] rfl (by kernel_rfl) rfl ?_
          intro b246 w247 k248 A249 B250 z251
          have S252 := S244.newB B250 A249 k248
          refine EL_storeAll (v := .agg ([.int .i64 y.kind, .int .i64 y.writer, .int .i64 y.seq, v232, v235, .int .i64 y.who, .int .i64 y.rights, .int .i64 y.epoch, v241]).toArray) (cs' := ([.int .i64 y.kind, .int .i64 y.writer, .int .i64 y.seq, v232, v235, .int .i64 y.who, .int .i64 y.rights, .int .i64 y.epoch, v241]).toArray) rfl rfl rfl (S252.arr 0 rfl) rfl (by kernel_rfl) (ones_cons rfl (ones_cons rfl (ones_cons rfl (ones_cons o233 (ones_cons o236 (ones_cons rfl (ones_cons rfl (ones_cons rfl (ones_cons o242 (fun _ h => nomatch h)))))))))) ?_
          intro w253 A254 K255 z256
          have S257 := S252.wr0 (ds := [.int .i64 y.kind, .int .i64 y.writer, .int .i64 y.seq, v232, v235, .int .i64 y.who, .int .i64 y.rights, .int .i64 y.epoch, v241]) K255 A254
          refine EL_val (.int .i64 (openRE M secret (signOf 75 1) (⟨1, 0, e.writer, 1, boxOf 2 (bpad (twoT e.encB mark)).length⟩ : Record))) w253 rfl (r_assign rfl) ?_
          refine EL_nil ?_
          refine thn_n ?_
          refine EC_seq ?_
          refine EC_reg ?_
          refine EL_val p60 w253 rfl (r_move rfl) ?_
          refine EL_val v1 w253 rfl (r_move rfl) ?_
          refine EL_val v63 w253 rfl (r_move rfl) ?_
          refine EL_val (.agg ([.int .i64 own.coll, .int .i64 own.epoch, .int .i64 own.writer, .int .i64 own.count, v205]).toArray) w253 rfl (r_loadAll rfl (S257.arr 2 rfl) Try.underlying27 rfl (by kernel_rfl)) ?_
          have S258 := S257.fr1
          refine EL_ret _ rfl Try.func25 rfl nm25 rfl (ROpen_c p60 M v1 secret v63 (signOf 75 1) [.int .i64 own.coll, .int .i64 own.epoch, .int .i64 own.writer, .int .i64 own.count, v205] own I226 _ _ S258 (Q0.up (Gh.le_trans (Gh.le_trans (Gh.le_trans (Gh.le_trans (Gh.le_trans (Gh.le_trans (Gh.le_trans (Gh.le_trans (Gh.le_trans (Gh.le_trans (Gh.le_trans (Gh.le_trans le36 le52) le84) le117) le119) le158) le165) le169) le173) le177) le192) le199) le227)) (H167.up (Gh.le_trans (Gh.le_trans (Gh.le_trans (Gh.le_trans (Gh.le_trans le169 le173) le177) le192) le199) le227)) ⟨v205, rfl, (by first | assumption | omega | (dsimp only; omega)), (by first | assumption | omega | (dsimp only; omega)), (by first | assumption | omega | (dsimp only; omega)), (by first | assumption | omega | (dsimp only; omega)), ⟨o206, (H207.up le227)⟩⟩ (by omega) (by omega) hT) ?_
          rintro _ w259 ⟨cs261, I262, le263, rfl, h264, S260⟩
          obtain ⟨z, hnz⟩ : ∃ x : Entry, x = (openRV M secret (signOf 75 1) own) := ⟨_, rfl⟩
          rw [show (openRV M secret (signOf 75 1) own) = z from hnz.symm] at h264
          obtain ⟨v268, v271, v277, rfl, r265, r266, r267, ⟨o269, H270⟩, ⟨o272, H273⟩, r274, r275, r276, ⟨o278, H279⟩⟩ := h264
          have q281 : openRL M secret (signOf 75 1) own = M := hq4
          have S280 := Sat.ah0 (Suite p60) S260 q281
          refine EL_val (.tuple #[.agg ([.int .i64 z.kind, .int .i64 z.writer, .int .i64 z.seq, v268, v271, .int .i64 z.who, .int .i64 z.rights, .int .i64 z.epoch, v277]).toArray, .int .i64 (openRE M secret (signOf 75 1) own)]) w259 rfl (r_move rfl) ?_
          refine EL_val (.agg ([.int .i64 z.kind, .int .i64 z.writer, .int .i64 z.seq, v268, v271, .int .i64 z.who, .int .i64 z.rights, .int .i64 z.epoch, v277]).toArray) w259 rfl (r_extract rfl rfl) ?_
          refine EL_val (.int .i64 (openRE M secret (signOf 75 1) own)) w259 rfl (r_extract rfl rfl) ?_
          refine EL_alloc (z := .agg #[.int .i64 0, .int .i64 0, .int .i64 0, .slice none 0 0, .slice none 0 0, .int .i64 0, .int .i64 0, .int .i64 0, .slice none 0 0]) [.int .i64 0, .int .i64 0, .int .i64 0, .slice none 0 0, .slice none 0 0, .int .i64 0, .int .i64 0, .int .i64 0, .slice none 0 0] rfl (by kernel_rfl) rfl ?_
          intro b282 w283 k284 A285 B286 z287
          have S288 := S280.newB B286 A285 k284
          refine EL_storeAll (v := .agg ([.int .i64 z.kind, .int .i64 z.writer, .int .i64 z.seq, v268, v271, .int .i64 z.who, .int .i64 z.rights, .int .i64 z.epoch, v277]).toArray) (cs' := ([.int .i64 z.kind, .int .i64 z.writer, .int .i64 z.seq, v268, v271, .int .i64 z.who, .int .i64 z.rights, .int .i64 z.epoch, v277]).toArray) rfl rfl rfl (S288.arr 0 rfl) rfl (by kernel_rfl) (ones_cons rfl (ones_cons rfl (ones_cons rfl (ones_cons o269 (ones_cons o272 (ones_cons rfl (ones_cons rfl (ones_cons rfl (ones_cons o278 (fun _ h => nomatch h)))))))))) ?_
          intro w289 A290 K291 z292
          have S293 := S288.wr0 (ds := [.int .i64 z.kind, .int .i64 z.writer, .int .i64 z.seq, v268, v271, .int .i64 z.who, .int .i64 z.rights, .int .i64 z.epoch, v277]) K291 A290
          refine EL_val (.int .i64 (openRE M secret (signOf 75 1) own)) w289 rfl (r_assign rfl) ?_
          refine EL_nil ?_
          refine thn_n ?_
          refine EC_seq ?_
          refine EC_seq ?_
          refine EC_reg ?_
          refine EL_val (.int .i64 (sealRE (signOf 75 1) (⟨1, 0, e.writer, 1, boxOf 2 (bpad (twoT e.encB mark)).length⟩ : Record) e)) w289 rfl (r_move rfl) ?_
          refine EL_val (.bool (decide ((sealRE (signOf 75 1) (⟨1, 0, e.writer, 1, boxOf 2 (bpad (twoT e.encB mark)).length⟩ : Record) e) ≠ 0))) w289 rfl (r_neq rfl rfl) ?_
          refine EL_nil ?_
          refine thn_n ?_
          refine EC_cond_false (Eq.trans (show _ = Value.bool (decide ((sealRE (signOf 75 1) (⟨1, 0, e.writer, 1, boxOf 2 (bpad (twoT e.encB mark)).length⟩ : Record) e) ≠ 0)) from rfl) (congrArg Value.bool (show (decide ((sealRE (signOf 75 1) (⟨1, 0, e.writer, 1, boxOf 2 (bpad (twoT e.encB mark)).length⟩ : Record) e) ≠ 0)) = false from (decide_eq_false (fun h => h hE0))))) ?_
          refine EC_skip ?_
          refine thn_n ?_
          refine EC_seq ?_
          refine EC_any 9 (fun w' => Gh.le I262 (gh w')) (fun w' => Arr w' b68 27 [.int .i64 1, .int .i64 0, .int .i64 e.writer, .int .i64 1, v183] ∧ Arr w' b210 27 [.int .i64 own.coll, .int .i64 own.epoch, .int .i64 own.writer, .int .i64 own.count, v205]) (by kernel_rfl) ?_
          intro w294 B295
          have S296 := S293.below B295
          refine EJ_take 0 rfl (by kernel_rfl) (by kernel_rfl) (by kernel_rfl) rfl (by kernel_rfl) p60 rfl (fun _ hw ht => r_move rfl) ⟨S296.le, fun h => ⟨S296.arr 6 rfl, S296.arr 3 rfl⟩⟩ ?_
          refine EJ_take 1 rfl (by kernel_rfl) (by kernel_rfl) (by kernel_rfl) rfl (by kernel_rfl) v63 rfl (fun _ hw ht => r_move rfl) ⟨S296.le, fun h => ⟨S296.arr 6 rfl, S296.arr 3 rfl⟩⟩ ?_
          refine EJ_take 2 rfl (by kernel_rfl) (by kernel_rfl) (by kernel_rfl) rfl (by kernel_rfl) (ptr b68 2) rfl (fun _ hw ht => r_fieldP (o := 0) (s := 1) rfl Try.underlying27 rfl (by kernel_rfl) (by decide) rfl) ⟨S296.le, fun h => ⟨S296.arr 6 rfl, S296.arr 3 rfl⟩⟩ ?_
          refine EJ_take 3 rfl (by kernel_rfl) (by kernel_rfl) (by kernel_rfl) rfl (by kernel_rfl) (.int .i64 e.writer) rfl (fun _ hw ht => r_loadA rfl ht.1 (u := (.int .i64 e.writer)) rfl Try.underlying3 rfl) ⟨S296.le, fun h => ⟨S296.arr 6 rfl, S296.arr 3 rfl⟩⟩ ?_
          refine EJ_take 5 rfl (by kernel_rfl) (by kernel_rfl) (by kernel_rfl) rfl (by kernel_rfl) (.agg ([.int .i64 own.coll, .int .i64 own.epoch, .int .i64 own.writer, .int .i64 own.count, v205]).toArray) rfl (fun _ hw ht => r_loadAll rfl ht.2 Try.underlying27 rfl (by kernel_rfl)) ⟨S296.le, fun h => ⟨S296.arr 6 rfl, S296.arr 3 rfl⟩⟩ ?_
          refine EJ_take 7 rfl (by kernel_rfl) (by kernel_rfl) (by kernel_rfl) rfl (by kernel_rfl) (ptr b210 4) rfl (fun _ hw ht => r_fieldP (o := 0) (s := 1) rfl Try.underlying27 rfl (by kernel_rfl) (by decide) rfl) ⟨S296.le, fun h => ⟨S296.arr 6 rfl, S296.arr 3 rfl⟩⟩ ?_
          refine EJ_take 8 rfl (by kernel_rfl) (by kernel_rfl) (by kernel_rfl) rfl (by kernel_rfl) v205 rfl (fun _ hw ht => r_loadA rfl ht.2 (u := v205) rfl Try.underlying22 rfl) ⟨S296.le, fun h => ⟨S296.arr 6 rfl, S296.arr 3 rfl⟩⟩ ?_
          refine EJ_one 4 (by kernel_rfl) ⟨_, rfl, ?_⟩
          refine EL_ret _ rfl Try.func22 rfl nm22 rfl (Nonce14_c e.writer 1 I262 _ _ S296 (by omega) (by decide)) ?_
          rintro _ w297 ⟨v299, rfl, S298⟩
          refine EL_nil ?_
          refine ⟨rfl, ⟨S298.le, fun h => ⟨S298.arr 7 rfl, S298.arr 4 rfl⟩⟩, ?_⟩
          refine EJ_one 6 (by kernel_rfl) ⟨_, rfl, ?_⟩
          refine EL_ret _ rfl Try.func23 rfl nm23 rfl (Front15_c [.int .i64 own.coll, .int .i64 own.epoch, .int .i64 own.writer, .int .i64 own.count, v205] own I262 _ _ S298 ⟨v205, rfl, (by first | assumption | omega | (dsimp only; omega)), (by first | assumption | omega | (dsimp only; omega)), (by first | assumption | omega | (dsimp only; omega)), (by first | assumption | omega | (dsimp only; omega)), ⟨o206, (H207.up (Gh.le_trans le227 le263))⟩⟩ hq7) ?_
          rintro _ w300 ⟨v302, rfl, S301⟩
          refine EL_nil ?_
          refine ⟨rfl, ⟨S301.le, fun h => ⟨S301.arr 8 rfl, S301.arr 5 rfl⟩⟩, ?_⟩
          refine EJ_one 9 (by kernel_rfl) ⟨_, rfl, ?_⟩
          obtain ⟨I303, le304, S305, H306⟩ := S301.fb1
          obtain ⟨I307, le308, S309, H310⟩ := S305.fb0
          have S311 := S309.fr1
          refine EL_ret _ rfl Try.func26 rfl nm26 rfl (Open_c p60 M v63 (signOf 75 1) v299 (be6 e.writer ++ be6 1) v302 own.front v205 own.box I307 _ _ S311 (H167.up (Gh.le_trans (Gh.le_trans (Gh.le_trans (Gh.le_trans (Gh.le_trans (Gh.le_trans (Gh.le_trans (Gh.le_trans le169 le173) le177) le192) le199) le227) le263) le304) le308)) (H306.up le308) H310 (H207.up (Gh.le_trans (Gh.le_trans (Gh.le_trans le227 le263) le304) le308)) (by omega) (by decide) (by simp [be6]) (Nat.le_trans (front_le _) (by decide)) (by omega) hT) ?_
          rintro _ w312 ⟨v314, I315, le316, rfl, H317, S313⟩
          refine EL_nil ?_
          refine ⟨rfl, ⟨(Gh.le_trans (Gh.le_trans (Gh.le_trans le304 le308) le316) S313.le), fun h => by cases h⟩, ?_⟩
          refine EJ_strong (fun w' => Gh.le I315 (gh w')) _ (fun w' hw => Gh.le_trans (Gh.le_trans (Gh.le_trans le304 le308) le316) hw) (fun w' _ ht => ht) ?_
          refine EJ_float 10 rfl (by kernel_rfl) (by kernel_rfl) (by kernel_rfl) rfl (.tuple #[v314, .int .i64 (openE M (signOf 75 1) (be6 e.writer ++ be6 1) own.front own.box)]) rfl (fun _ hw => r_move rfl) ⟨S313.le, fun h => by cases h⟩ ?_
          refine EJ_float 11 rfl (by kernel_rfl) (by kernel_rfl) (by kernel_rfl) rfl v314 rfl (fun _ hw => r_extract rfl rfl) ⟨S313.le, fun h => by cases h⟩ ?_
          refine EJ_float 12 rfl (by kernel_rfl) (by kernel_rfl) (by kernel_rfl) rfl (.int .i64 (openE M (signOf 75 1) (be6 e.writer ++ be6 1) own.front own.box)) rfl (fun _ hw => r_extract rfl rfl) ⟨S313.le, fun h => by cases h⟩ ?_
          refine EJ_float 13 rfl (by kernel_rfl) (by kernel_rfl) (by kernel_rfl) rfl v314 rfl (fun _ hw => r_assign rfl) ⟨S313.le, fun h => by cases h⟩ ?_
          refine EJ_float 14 rfl (by kernel_rfl) (by kernel_rfl) (by kernel_rfl) rfl (.int .i64 (openE M (signOf 75 1) (be6 e.writer ++ be6 1) own.front own.box)) rfl (fun _ hw => r_assign rfl) ⟨S313.le, fun h => by cases h⟩ ?_
          refine EJ_done (by kernel_rfl) ?_
          refine thn_n ?_
          refine EC_seq ?_
          refine EC_seq ?_
          refine EC_any 3 (fun w' => Gh.le I315 (gh w')) (fun w' => True) (by kernel_rfl) ?_
          intro w318 B319
          have S320 := S313.below B319
          refine EJ_float 0 rfl (by kernel_rfl) (by kernel_rfl) (by kernel_rfl) rfl v314 rfl (fun _ hw => r_move rfl) ⟨S320.le, fun h => trivial⟩ ?_
          refine EJ_float 1 rfl (by kernel_rfl) (by kernel_rfl) (by kernel_rfl) rfl (.string (str (openB M (signOf 75 1) (be6 e.writer ++ be6 1) own.front own.box))) rfl (fun _ hw => r_str rfl (H317 _ hw) Try.underlying22 Try.underlying5 Try.underlying9) ⟨S320.le, fun h => trivial⟩ ?_
          refine EJ_take 2 rfl (by kernel_rfl) (by kernel_rfl) (by kernel_rfl) rfl (by kernel_rfl) v130 rfl (fun _ hw ht => r_move rfl) ⟨S320.le, fun h => trivial⟩ ?_
          refine EJ_one 3 (by kernel_rfl) ⟨_, rfl, ?_⟩
          refine EL_ret _ rfl Try.func24 rfl nm24 rfl (Pad13_c v130 (twoT e.encB mark) I315 _ _ S320 (H160.up (Gh.le_trans (Gh.le_trans (Gh.le_trans (Gh.le_trans (Gh.le_trans (Gh.le_trans (Gh.le_trans (Gh.le_trans (Gh.le_trans (Gh.le_trans le165 le169) le173) le177) le192) le199) le227) le263) le304) le308) le316)) (by omega)) ?_
          rintro _ w321 ⟨v323, rfl, S322⟩
          refine EL_nil ?_
          refine ⟨rfl, ⟨S322.le, fun h => by cases h⟩, ?_⟩
          obtain ⟨I324, le325, S326, H327⟩ := S322.fb0
          refine EJ_strong (fun w' => Gh.le I324 (gh w')) _ (fun w' hw => Gh.le_trans le325 hw) (fun w' _ ht => ht) ?_
          refine EJ_float 4 rfl (by kernel_rfl) (by kernel_rfl) (by kernel_rfl) rfl (.string (str (bpad (twoT e.encB mark)))) rfl (fun _ hw => r_str rfl (H327 _ hw) Try.underlying22 Try.underlying5 Try.underlying9) ⟨S326.le, fun h => by cases h⟩ ?_
          refine EJ_float 5 rfl (by kernel_rfl) (by kernel_rfl) (by kernel_rfl) rfl (.bool (decide ((openB M (signOf 75 1) (be6 e.writer ++ be6 1) own.front own.box) = (bpad (twoT e.encB mark))))) rfl (fun _ hw => r_eqls rfl rfl) ⟨S326.le, fun h => by cases h⟩ ?_
          refine EJ_done (by kernel_rfl) ?_
          refine thn_n ?_
          refine EC_if (p := (openB M (signOf 75 1) (be6 e.writer ++ be6 1) own.front own.box) = (bpad (twoT e.encB mark))) rfl (fun h328 => ?_) (fun h328 => ?_)
          · have hsame := (mark_same (m := mark) hsm.2 (by omega) (markB_len _ _ _ _ _)).1 (hq5.symm.trans h328)
            rw [if_pos hsame] at hq9
            refine EC_seq ?_
            refine EC_reg ?_
            refine EL_val (.int .i64 (openRE M secret (signOf 75 1) (⟨1, 0, e.writer, 1, boxOf 2 (bpad (twoT e.encB mark)).length⟩ : Record))) w321 rfl (r_move rfl) ?_
            refine EL_val (.bool true) w321 rfl (r_dec (show (decide ((openRE M secret (signOf 75 1) (⟨1, 0, e.writer, 1, boxOf 2 (bpad (twoT e.encB mark)).length⟩ : Record)) = 0)) = true from decide_eq_true hq9) (r_eql rfl rfl)) ?_
            refine EL_val (.bool true) w321 rfl (r_assign rfl) ?_
            refine EL_nil ?_
            refine thn_n ?_
            refine EC_ret ?_
            refine thn_r ?_
            refine fin1 Try.results4 (show _ = .bool true from rfl) ⟨_, rfl, ?_⟩
            have S329 := S326.dr0
            have S330 := S329.dr0
            have S331 := S330.dr0
            have S332 := S331.dr0
            have S333 := S332.dr0
            have S334 := S333.dr0
            have S335 := S334.dr0
            have S336 := S335.dr0
            exact ⟨I324, (Gh.le_trans (Gh.le_trans (Gh.le_trans (Gh.le_trans (Gh.le_trans (Gh.le_trans (Gh.le_trans (Gh.le_trans (Gh.le_trans (Gh.le_trans (Gh.le_trans (Gh.le_trans (Gh.le_trans (Gh.le_trans (Gh.le_trans (Gh.le_trans (Gh.le_trans le36 le52) le84) le117) le119) le158) le165) le169) le173) le177) le192) le199) le227) le263) le304) le308) le316) le325), rfl, S336⟩
          · have hsame := fun h => h328 (hq5.trans ((mark_same (m := mark) hsm.2 (by omega) (markB_len _ _ _ _ _)).2 h))
            rw [if_neg hsame] at hq9 hq10
            refine EC_skip ?_
            refine thn_n ?_
            refine EC_seq ?_
            refine EC_reg ?_
            refine EL_val (.int .i64 (openRE M secret (signOf 75 1) own)) w321 rfl (r_move rfl) ?_
            refine EL_val (.bool true) w321 rfl (r_dec (show (decide ((openRE M secret (signOf 75 1) own) = 0)) = true from decide_eq_true hq2) (r_eql rfl rfl)) ?_
            refine EL_val (.bool true) w321 rfl (r_move rfl) ?_
            refine EL_gval 124 rfl rfl rfl rfl (.agg ([.int .i64 z.kind, .int .i64 z.writer, .int .i64 z.seq, v268, v271, .int .i64 z.who, .int .i64 z.rights, .int .i64 z.epoch, v277]).toArray) w321 rfl (r_loadAll rfl (S326.arr 1 rfl) Try.underlying25 rfl (by kernel_rfl)) ?_
            refine EL_gval 124 rfl rfl rfl rfl (.agg ([.int .i64 e.kind, .int .i64 e.writer, .int .i64 e.seq, v14, v17, .int .i64 e.who, .int .i64 e.rights, .int .i64 e.epoch, v23]).toArray) w321 rfl (r_loadAll rfl (S326.arr 7 rfl) Try.underlying25 rfl (by kernel_rfl)) ?_
            refine EL_gret 124 rfl rfl rfl rfl _ rfl Try.func27 rfl nm27 rfl (Same_c [.int .i64 z.kind, .int .i64 z.writer, .int .i64 z.seq, v268, v271, .int .i64 z.who, .int .i64 z.rights, .int .i64 z.epoch, v277] [.int .i64 e.kind, .int .i64 e.writer, .int .i64 e.seq, v14, v17, .int .i64 e.who, .int .i64 e.rights, .int .i64 e.epoch, v23] z e I324 _ _ S326 ⟨v268, v271, v277, rfl, (by first | assumption | omega | (dsimp only; omega)), (by first | assumption | omega | (dsimp only; omega)), (by first | assumption | omega | (dsimp only; omega)), ⟨o269, (H270.up (Gh.le_trans (Gh.le_trans (Gh.le_trans le304 le308) le316) le325))⟩, ⟨o272, (H273.up (Gh.le_trans (Gh.le_trans (Gh.le_trans le304 le308) le316) le325))⟩, (by first | assumption | omega | (dsimp only; omega)), (by first | assumption | omega | (dsimp only; omega)), (by first | assumption | omega | (dsimp only; omega)), ⟨o278, (H279.up (Gh.le_trans (Gh.le_trans (Gh.le_trans le304 le308) le316) le325))⟩⟩ ⟨v14, v17, v23, rfl, (by first | assumption | omega | (dsimp only; omega)), (by first | assumption | omega | (dsimp only; omega)), (by first | assumption | omega | (dsimp only; omega)), ⟨o15, (H16.up (Gh.le_trans (Gh.le_trans (Gh.le_trans (Gh.le_trans (Gh.le_trans (Gh.le_trans (Gh.le_trans (Gh.le_trans (Gh.le_trans (Gh.le_trans (Gh.le_trans (Gh.le_trans (Gh.le_trans (Gh.le_trans (Gh.le_trans (Gh.le_trans (Gh.le_trans le36 le52) le84) le117) le119) le158) le165) le169) le173) le177) le192) le199) le227) le263) le304) le308) le316) le325))⟩, ⟨o18, (H19.up (Gh.le_trans (Gh.le_trans (Gh.le_trans (Gh.le_trans (Gh.le_trans (Gh.le_trans (Gh.le_trans (Gh.le_trans (Gh.le_trans (Gh.le_trans (Gh.le_trans (Gh.le_trans (Gh.le_trans (Gh.le_trans (Gh.le_trans (Gh.le_trans (Gh.le_trans le36 le52) le84) le117) le119) le158) le165) le169) le173) le177) le192) le199) le227) le263) le304) le308) le316) le325))⟩, (by first | assumption | omega | (dsimp only; omega)), (by first | assumption | omega | (dsimp only; omega)), (by first | assumption | omega | (dsimp only; omega)), ⟨o24, (H25.up (Gh.le_trans (Gh.le_trans (Gh.le_trans (Gh.le_trans (Gh.le_trans (Gh.le_trans (Gh.le_trans (Gh.le_trans (Gh.le_trans (Gh.le_trans (Gh.le_trans (Gh.le_trans (Gh.le_trans (Gh.le_trans (Gh.le_trans (Gh.le_trans (Gh.le_trans le36 le52) le84) le117) le119) le158) le165) le169) le173) le177) le192) le199) le227) le263) le304) le308) le316) le325))⟩⟩) ?_
            rintro _ w337 ⟨rfl, S338⟩
            refine EL_val (.bool true) w337 rfl (r_pickT rfl (Eq.trans (show _ = Value.bool (decide (z = e)) from rfl) (congrArg Value.bool (show (decide (z = e)) = true from decide_eq_true (hnz.trans hq3))))) ?_
            refine EL_val (.bool true) w337 rfl (r_move rfl) ?_
            refine EL_gval 129 rfl rfl rfl rfl (.int .i64 (openRE M secret (signOf 75 1) (⟨1, 0, e.writer, 1, boxOf 2 (bpad (twoT e.encB mark)).length⟩ : Record))) w337 rfl (r_move rfl) ?_
            refine EL_gval 129 rfl rfl rfl rfl (.bool true) w337 rfl (r_dec (show (decide ((openRE M secret (signOf 75 1) (⟨1, 0, e.writer, 1, boxOf 2 (bpad (twoT e.encB mark)).length⟩ : Record)) = 22)) = true from decide_eq_true hq9) (r_eql rfl rfl)) ?_
            refine EL_val (.bool true) w337 rfl (r_pickT rfl rfl) ?_
            refine EL_val (.bool true) w337 rfl (r_move rfl) ?_
            refine EL_gval 133 rfl rfl rfl rfl (ptr b246 0) w337 rfl (r_fieldP (o := 0) (s := 1) rfl Try.underlying25 rfl (by kernel_rfl) (by decide) rfl) ?_
            refine EL_gval 133 rfl rfl rfl rfl (.int .i64 y.kind) w337 rfl (r_loadA rfl (S338.arr 2 rfl) (u := (.int .i64 y.kind)) rfl Try.underlying3 rfl) ?_
            refine EL_gval 133 rfl rfl rfl rfl (.bool true) w337 rfl (r_dec (show (decide (y.kind = 0)) = true from by rw [hny, hq10]; rfl) (r_eql rfl rfl)) ?_
            refine EL_val (.bool true) w337 rfl (r_pickT rfl rfl) ?_
            refine EL_val (.bool true) w337 rfl (r_assign rfl) ?_
            refine EL_nil ?_
            refine thn_n ?_
            refine EC_ret ?_
            refine fin1 Try.results4 (show _ = .bool true from rfl) ⟨_, rfl, ?_⟩
            have S339 := S338.dr0
            have S340 := S339.dr0
            have S341 := S340.dr0
            have S342 := S341.dr0
            have S343 := S342.dr0
            have S344 := S343.dr0
            have S345 := S344.dr0
            have S346 := S345.dr0
            exact ⟨I324, (Gh.le_trans (Gh.le_trans (Gh.le_trans (Gh.le_trans (Gh.le_trans (Gh.le_trans (Gh.le_trans (Gh.le_trans (Gh.le_trans (Gh.le_trans (Gh.le_trans (Gh.le_trans (Gh.le_trans (Gh.le_trans (Gh.le_trans (Gh.le_trans (Gh.le_trans le36 le52) le84) le117) le119) le158) le165) le169) le173) le177) le192) le199) le227) le263) le304) le308) le316) le325), rfl, S346⟩
theorem SealedMarks_c (c0 : List Value) (e : Entry) (v1 : Value) (secret : List UInt8) (v2 : Value) (mark : List UInt8) (w : World) (H0 : entR.r (gh w) c0 e) (H1 : Bs w v1 secret) (H2 : Bs w v2 mark) : Ret Try.prog 4 [.agg c0.toArray, v1, v2] w fun v w' => v = .bool true ∧ Below w.heap.size w w' :=
  (SealedMarks_w c0 e v1 secret v2 mark (gh w) [] w (Sat.start w) (Row.ro H1) (Row.ro H2) H0).mono fun v w' h => by obtain ⟨J, le, e, S⟩ := h; exact ⟨e.symm, S.fin le⟩
theorem own : ownKnob Try.prog.godebug = none := by kernel_rfl
theorem laidOut : laidOutB Try.prog = true := by kernel_rfl
set_option maxRecDepth 100000 in
theorem lifted (os : Os) (started : os.Started) (H : Type) (enc : TypeId × Value → H) :
    ReturnsInHanded {} Try.checked os 4 .any (Rows.sealedMarksSpec.pre6 enc Try.prog Try.f4 Rows.sealedMarksRow.domain false) (Rows.sealedMarksSpec.post enc Try.prog Try.f4 false true false false) := by
  refine returnsInHanded_of_change (C := Try.checked) own started (by kernel_rfl) Try.func4
    (ChangeSpec.witness6 (enc := enc) (C := Try.checked) false ⟨#[], #[.agg #[.int .i64 0, .int .i64 0, .int .i64 0, .slice none 0 0, .slice none 0 0, .int .i64 0, .int .i64 0, .int .i64 0, .slice none 0 0], .slice none 0 0, .slice none 0 0], []⟩ 8 (by kernel_rfl) (by kernel_rfl) (by kernel_rfl) (by kernel_rfl)) ?_
  intro W base args ds gs before hval0 hW hcnd _
  have hval : ∀ (j : Nat) t v, Try.f4.params[j]? = some t → args[j]? = some v → Value.okWide Try.prog W .any base t v := hval0
  have hW' := hW
  obtain ⟨p, q, hA0, hV, rfl, hfz, hnd⟩ := hW
  have hA : DataW.TrodAll enc Try.prog W 0 (fun _ => true) true Try.f4.params.toList args.toList ds p := hA0
  rw [Try.params4] at hA hval
  obtain ⟨v0, vs0, d0, ds0, p0, q0, hargs, rfl, rfl, h0, r0⟩ := trodAll_cons hA
  obtain ⟨v1, vs1, d1, ds1, p1, q1, rfl, rfl, rfl, h1, r1⟩ := trodAll_cons r0
  obtain ⟨v2, vs2, d2, ds2, p2, q2, rfl, rfl, rfl, h2, r2⟩ := trodAll_cons r1
  obtain ⟨rfl, rfl, rfl⟩ := trodAll_nil r2
  obtain rfl : args = #[v0, v1, v2] := by cases args; simp_all
  obtain ⟨rfl, rfl⟩ := trodVars_none hV
  have k0 := h0
  have lt0 : ∀ x ∈ p0, x.block < W.heap.size := by obtain ⟨m, hm⟩ := k0; exact DataW.trod_lt m _ _ _ hm
  obtain ⟨a0, rfl, _⟩ := okWide_struct Try.underlying25 (hval 0 25 v0 rfl rfl)
  obtain ⟨c0, rfl⟩ : ∃ c : List Value, a0 = c.toArray := ⟨a0.toList, by simp⟩
  obtain ⟨b0, H0⟩ : ∃ b, (entR).r (gh W) c0 b := by obtain ⟨fuel, hf⟩ := h0; exact opn_25 _ W _ _ _ _ _ hf
  have k1 := h1
  have lt1 : ∀ x ∈ p1, x.block < W.heap.size := by obtain ⟨m, hm⟩ := k1; exact DataW.trod_lt m _ _ _ hm
  obtain ⟨a1, len1, cap1, rfl⟩ := okWide_slice Try.underlying22 (hval 1 22 v1 rfl rfl)
  obtain ⟨b1, H1⟩ : ∃ l, Bs W (.slice a1 len1 cap1) l := by
    obtain ⟨fuel, hf⟩ := h1
    rcases open_ints Try.underlying22 Try.underlying5 (by kernel_rfl) hf with ⟨hcs, _⟩ | ⟨x, l, c, zs, hcs, _, hl, hm, hz, _, hcell, hwz⟩
    · simp [Value.cells] at hcs
      obtain ⟨rfl, rfl, rfl⟩ := hcs
      exact ⟨[], Row.nil W⟩
    · simp [Value.cells] at hcs
      obtain ⟨rfl, rfl, rfl⟩ := hcs
      exact bs_open hl hm (by simpa using hz) hcell hwz
  have k2 := h2
  have lt2 : ∀ x ∈ p2, x.block < W.heap.size := by obtain ⟨m, hm⟩ := k2; exact DataW.trod_lt m _ _ _ hm
  obtain ⟨a2, len2, cap2, rfl⟩ := okWide_slice Try.underlying22 (hval 2 22 v2 rfl rfl)
  obtain ⟨b2, H2⟩ : ∃ l, Bs W (.slice a2 len2 cap2) l := by
    obtain ⟨fuel, hf⟩ := h2
    rcases open_ints Try.underlying22 Try.underlying5 (by kernel_rfl) hf with ⟨hcs, _⟩ | ⟨x, l, c, zs, hcs, _, hl, hm, hz, _, hcell, hwz⟩
    · simp [Value.cells] at hcs
      obtain ⟨rfl, rfl, rfl⟩ := hcs
      exact ⟨[], Row.nil W⟩
    · simp [Value.cells] at hcs
      obtain ⟨rfl, rfl, rfl⟩ := hcs
      exact bs_open hl hm (by simpa using hz) hcell hwz
  clear hA0 hval0
  refine Calls.mono (SealedMarks_c c0 b0 (.slice a1 len1 cap1) b1 (.slice a2 len2 cap2) b2 W H0 H1 H2) fun e W' ⟨v', he, hv, bel⟩ => ?_
  subst he
  subst hv
  exact ⟨_, rfl, _, _, _, [], _, [], hW', trodAll_mk1 (shut_bool Try.underlying4 _), (trodAll_cons_mk (Below.trod laidOut (by kernel_rfl) (of_decide_eq_true (by kernel_rfl)) k0 bel lt0) (trodAll_cons_mk (Below.trod laidOut (by kernel_rfl) (of_decide_eq_true (by kernel_rfl)) k1 bel lt1) (trodAll_cons_mk (Below.trod laidOut (by kernel_rfl) (of_decide_eq_true (by kernel_rfl)) k2 bel lt2) trodAll_mk0))), rfl, bel.frame _, fun h => by cases h⟩
theorem over : Rows.sealedMarksRow.holds Try.pinned (OpenSpec.ofChange Rows.sealedMarksSpec) :=
  OpenClaim.holds_of_wide 4 Try.f4 rfl rfl rfl rfl rfl rfl rfl ⟨rfl, rfl, rfl, rfl, rfl⟩ rfl rfl rfl rfl rfl (by kernel_rfl) Try.func4 (by kernel_rfl)
    (of_decide_eq_true (by kernel_rfl)) (by unfold Func.isWrapper; first | (rw [if_pos (by decide +kernel)]; kernel_rfl) | (rw [if_neg (by decide +kernel)]; exact ⟨rfl, rfl⟩))
    (fun os started H enc _ => lifted os started H enc)
end Go.Proofs.Ytoajodjcmeijgaa.sealedMarks
namespace Go.Proofs.Ytoajodjcmeijgaa
theorem SealedMarks_holds : Rows.SealedMarksSaid := sealedMarks.over
end Go.Proofs.Ytoajodjcmeijgaa
