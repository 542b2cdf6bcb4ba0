/-
  By signs the records of two entries of one bucket, sealed by the same steps, are the same bytes, whatever the entries are.
  Its conditions: none: whatever the input, in whatever memory.
-/
import Derived.Test.YtoajodjcmeijgaaRows
import Derived.ProofKit
import Derived.OpenShut
import Derived.ShutString
import Derived.ChangeOld
import Derived.Test.YtoajodjcmeijgaaQSealedHidesAnc
import Derived.Test.YtoajodjcmeijgaaQSealedHidesR9B
import Derived.Test.YtoajodjcmeijgaaQSealedHidesMade
import Derived.Test.YtoajodjcmeijgaaQSealedHidesEntLaw
set_option linter.unusedVariables false
set_option linter.unusedSimpArgs false
namespace Go.Proofs.Ytoajodjcmeijgaa.sealedHides
open Go.ChangeShapes Go.WideShapes Go.ChangeAt Go.RowKit Go.Ecal
open Go.ChangeMaps (open_string shut_string)
set_option maxRecDepth 100000 in
theorem opn_62 : Opn Try.prog 62 wrapR := fun enc w sp hd fuel cs x h => by
  obtain ⟨xs, n, _, _, hl, hxl, hf⟩ := DataW.trod_struct Try.underlying62 h
  have hlen : cs.length = 2 := hl.trans (by kernel_rfl)
  obtain ⟨c0, t0, rfl, l0⟩ := cons_of_len hlen
  obtain ⟨c1, t1, rfl, l1⟩ := cons_of_len l0
  obtain rfl := List.eq_nil_of_length_eq_zero l1
  have e0 : DataW.trod enc Try.prog w 0 sp hd n 3 [c0] = xs[0]? := Opn.part hf rfl rfl rfl (k := 1) (by kernel_rfl) rfl
  obtain ⟨a0, h0⟩ := Opn.field (Opn.int Try.underlying3) (by rw [hxl]; decide) e0
  have e1 : DataW.trod enc Try.prog w 0 sp hd n 22 [c1] = xs[1]? := Opn.part hf rfl rfl rfl (k := 1) (by kernel_rfl) rfl
  obtain ⟨a1, h1⟩ := Opn.field (Opn.bytes Try.underlying22 Try.underlying5 (by kernel_rfl)) (by rw [hxl]; decide) e1
  obtain ⟨q, rh0⟩ := h0; simp only [List.cons.injEq, and_true] at q; subst q
  obtain ⟨vh1, q, oh1, rh1⟩ := h1; simp only [List.cons.injEq, and_true] at q; subst q
  exact ⟨⟨a0, a1⟩, ⟨_, rfl, rh0, ⟨oh1, rh1⟩⟩⟩
set_option maxRecDepth 100000 in
theorem opn_25 : Opn Try.prog 25 entR := fun enc w sp hd fuel cs x h => by
  obtain ⟨xs, n, _, _, hl, hxl, hf⟩ := DataW.trod_struct Try.underlying25 h
  have hlen : cs.length = 9 := hl.trans (by kernel_rfl)
  obtain ⟨c0, t0, rfl, l0⟩ := cons_of_len hlen
  obtain ⟨c1, t1, rfl, l1⟩ := cons_of_len l0
  obtain ⟨c2, t2, rfl, l2⟩ := cons_of_len l1
  obtain ⟨c3, t3, rfl, l3⟩ := cons_of_len l2
  obtain ⟨c4, t4, rfl, l4⟩ := cons_of_len l3
  obtain ⟨c5, t5, rfl, l5⟩ := cons_of_len l4
  obtain ⟨c6, t6, rfl, l6⟩ := cons_of_len l5
  obtain ⟨c7, t7, rfl, l7⟩ := cons_of_len l6
  obtain ⟨c8, t8, rfl, l8⟩ := cons_of_len l7
  obtain rfl := List.eq_nil_of_length_eq_zero l8
  have e0 : DataW.trod enc Try.prog w 0 sp hd n 3 [c0] = xs[0]? := Opn.part hf rfl rfl rfl (k := 1) (by kernel_rfl) rfl
  obtain ⟨a0, h0⟩ := Opn.field (Opn.int Try.underlying3) (by rw [hxl]; decide) e0
  have e1 : DataW.trod enc Try.prog w 0 sp hd n 3 [c1] = xs[1]? := Opn.part hf rfl rfl rfl (k := 1) (by kernel_rfl) rfl
  obtain ⟨a1, h1⟩ := Opn.field (Opn.int Try.underlying3) (by rw [hxl]; decide) e1
  have e2 : DataW.trod enc Try.prog w 0 sp hd n 3 [c2] = xs[2]? := Opn.part hf rfl rfl rfl (k := 1) (by kernel_rfl) rfl
  obtain ⟨a2, h2⟩ := Opn.field (Opn.int Try.underlying3) (by rw [hxl]; decide) e2
  have e3 : DataW.trod enc Try.prog w 0 sp hd n 22 [c3] = xs[3]? := Opn.part hf rfl rfl rfl (k := 1) (by kernel_rfl) rfl
  obtain ⟨a3, h3⟩ := Opn.field (Opn.bytes Try.underlying22 Try.underlying5 (by kernel_rfl)) (by rw [hxl]; decide) e3
  have e4 : DataW.trod enc Try.prog w 0 sp hd n 22 [c4] = xs[4]? := Opn.part hf rfl rfl rfl (k := 1) (by kernel_rfl) rfl
  obtain ⟨a4, h4⟩ := Opn.field (Opn.bytes Try.underlying22 Try.underlying5 (by kernel_rfl)) (by rw [hxl]; decide) e4
  have e5 : DataW.trod enc Try.prog w 0 sp hd n 3 [c5] = xs[5]? := Opn.part hf rfl rfl rfl (k := 1) (by kernel_rfl) rfl
  obtain ⟨a5, h5⟩ := Opn.field (Opn.int Try.underlying3) (by rw [hxl]; decide) e5
  have e6 : DataW.trod enc Try.prog w 0 sp hd n 3 [c6] = xs[6]? := Opn.part hf rfl rfl rfl (k := 1) (by kernel_rfl) rfl
  obtain ⟨a6, h6⟩ := Opn.field (Opn.int Try.underlying3) (by rw [hxl]; decide) e6
  have e7 : DataW.trod enc Try.prog w 0 sp hd n 3 [c7] = xs[7]? := Opn.part hf rfl rfl rfl (k := 1) (by kernel_rfl) rfl
  obtain ⟨a7, h7⟩ := Opn.field (Opn.int Try.underlying3) (by rw [hxl]; decide) e7
  have e8 : DataW.trod enc Try.prog w 0 sp hd n 23 [c8] = xs[8]? := Opn.part hf rfl rfl rfl (k := 1) (by kernel_rfl) rfl
  obtain ⟨a8, h8⟩ := Opn.field (Opn.list (τ := wrapR) Try.underlying23 (by kernel_rfl) (by decide) opn_62) (by rw [hxl]; decide) e8
  obtain ⟨q, rh0⟩ := h0; simp only [List.cons.injEq, and_true] at q; subst q
  obtain ⟨q, rh1⟩ := h1; simp only [List.cons.injEq, and_true] at q; subst q
  obtain ⟨q, rh2⟩ := h2; simp only [List.cons.injEq, and_true] at q; subst q
  obtain ⟨vh3, q, oh3, rh3⟩ := h3; simp only [List.cons.injEq, and_true] at q; subst q
  obtain ⟨vh4, q, oh4, rh4⟩ := h4; simp only [List.cons.injEq, and_true] at q; subst q
  obtain ⟨q, rh5⟩ := h5; simp only [List.cons.injEq, and_true] at q; subst q
  obtain ⟨q, rh6⟩ := h6; simp only [List.cons.injEq, and_true] at q; subst q
  obtain ⟨q, rh7⟩ := h7; simp only [List.cons.injEq, and_true] at q; subst q
  obtain ⟨vh8, q, oh8, rh8⟩ := h8; simp only [List.cons.injEq, and_true] at q; subst q
  exact ⟨⟨a0, a1, a2, a3, a4, a5, a6, a7, a8⟩, ⟨_, _, _, rfl, rh0, rh1, rh2, ⟨oh3, rh3⟩, ⟨oh4, rh4⟩, rh5, rh6, rh7, ⟨oh8, rh8⟩⟩⟩
set_option maxRecDepth 100000 in
theorem opn_27 : Opn Try.prog 27 recR := fun enc w sp hd fuel cs x h => by
  obtain ⟨xs, n, _, _, hl, hxl, hf⟩ := DataW.trod_struct Try.underlying27 h
  have hlen : cs.length = 5 := hl.trans (by kernel_rfl)
  obtain ⟨c0, t0, rfl, l0⟩ := cons_of_len hlen
  obtain ⟨c1, t1, rfl, l1⟩ := cons_of_len l0
  obtain ⟨c2, t2, rfl, l2⟩ := cons_of_len l1
  obtain ⟨c3, t3, rfl, l3⟩ := cons_of_len l2
  obtain ⟨c4, t4, rfl, l4⟩ := cons_of_len l3
  obtain rfl := List.eq_nil_of_length_eq_zero l4
  have e0 : DataW.trod enc Try.prog w 0 sp hd n 3 [c0] = xs[0]? := Opn.part hf rfl rfl rfl (k := 1) (by kernel_rfl) rfl
  obtain ⟨a0, h0⟩ := Opn.field (Opn.int Try.underlying3) (by rw [hxl]; decide) e0
  have e1 : DataW.trod enc Try.prog w 0 sp hd n 3 [c1] = xs[1]? := Opn.part hf rfl rfl rfl (k := 1) (by kernel_rfl) rfl
  obtain ⟨a1, h1⟩ := Opn.field (Opn.int Try.underlying3) (by rw [hxl]; decide) e1
  have e2 : DataW.trod enc Try.prog w 0 sp hd n 3 [c2] = xs[2]? := Opn.part hf rfl rfl rfl (k := 1) (by kernel_rfl) rfl
  obtain ⟨a2, h2⟩ := Opn.field (Opn.int Try.underlying3) (by rw [hxl]; decide) e2
  have e3 : DataW.trod enc Try.prog w 0 sp hd n 3 [c3] = xs[3]? := Opn.part hf rfl rfl rfl (k := 1) (by kernel_rfl) rfl
  obtain ⟨a3, h3⟩ := Opn.field (Opn.int Try.underlying3) (by rw [hxl]; decide) e3
  have e4 : DataW.trod enc Try.prog w 0 sp hd n 22 [c4] = xs[4]? := Opn.part hf rfl rfl rfl (k := 1) (by kernel_rfl) rfl
  obtain ⟨a4, h4⟩ := Opn.field (Opn.bytes Try.underlying22 Try.underlying5 (by kernel_rfl)) (by rw [hxl]; decide) e4
  obtain ⟨q, rh0⟩ := h0; simp only [List.cons.injEq, and_true] at q; subst q
  obtain ⟨q, rh1⟩ := h1; simp only [List.cons.injEq, and_true] at q; subst q
  obtain ⟨q, rh2⟩ := h2; simp only [List.cons.injEq, and_true] at q; subst q
  obtain ⟨q, rh3⟩ := h3; simp only [List.cons.injEq, and_true] at q; subst q
  obtain ⟨vh4, q, oh4, rh4⟩ := h4; simp only [List.cons.injEq, and_true] at q; subst q
  exact ⟨⟨a0, a1, a2, a3, a4⟩, ⟨_, rfl, rh0, rh1, rh2, rh3, ⟨oh4, rh4⟩⟩⟩
set_option maxRecDepth 100000 in
set_option maxHeartbeats 4000000 in
theorem SealedHides_w (c0 : List Value) (a : Entry) (c1 : List Value) (b : Entry) (v2 : Value) (secret : List UInt8) (c3 : List Value) (r : Record) (I : Gh) (R : List HP) (w : World) (S : Sat w I (R)) (Q0 : RoB I v2 secret) (ha : entR.r I c0 a) (hb : entR.r I c1 b) (hr : recR.r I c3 r) : Ret Try.prog 3 [.agg c0.toArray, .agg c1.toArray, v2, .agg c3.toArray] w fun v w' => ∃ J : Gh, Gh.le I J ∧ .bool true = v ∧ Sat w' J (R) := by
  have lq0 := RoB.le Q0 S.le
  obtain ⟨v14, v17, v23, rfl, r11, r12, r13, ⟨o15, H16⟩, ⟨o18, H19⟩, r20, r21, r22, ⟨o24, H25⟩⟩ := ha
  obtain ⟨v29, v32, v38, rfl, r26, r27, r28, ⟨o30, H31⟩, ⟨o33, H34⟩, r35, r36, r37, ⟨o39, H40⟩⟩ := hb
  obtain ⟨v45, rfl, r41, r42, r43, r44, ⟨o46, H47⟩⟩ := hr
  refine ret_E Try.func3 rfl Try.ntmps3 (by simp) ?_
  refine EC_seq ?_
  refine EC_reg ?_
  refine EL_box [.int .i64 a.kind, .int .i64 a.writer, .int .i64 a.seq, v14, v17, .int .i64 a.who, .int .i64 a.rights, .int .i64 a.epoch, v23] rfl rfl rfl ?_
  intro b48 w49 k50 A51 B52 z53
  have S54 := S.newB B52 A51 k50
  refine EL_box [.int .i64 b.kind, .int .i64 b.writer, .int .i64 b.seq, v29, v32, .int .i64 b.who, .int .i64 b.rights, .int .i64 b.epoch, v38] rfl rfl rfl ?_
  intro b55 w56 k57 A58 B59 z60
  have S61 := S54.newB B59 A58 k57
  refine EL_box [.int .i64 r.coll, .int .i64 r.epoch, .int .i64 r.writer, .int .i64 r.count, v45] rfl rfl rfl ?_
  intro b62 w63 k64 A65 B66 z67
  have S68 := S61.newB B66 A65 k64
  refine EL_val (.bool false) w63 rfl (r_assign rfl) ?_
  refine EL_nil ?_
  refine thn_n ?_
  refine EC_seq ?_
  refine EC_seq ?_
  refine EC_reg ?_
  refine EL_ret _ rfl Try.func9 rfl nm9 rfl (anchor_c I _ _ S68) ?_
  rintro _ w69 ⟨I71, le72, rfl, S70⟩
  refine EL_val (.bool false) w69 rfl (r_dec (show (!true) = false from rfl) (r_not rfl)) ?_
  refine EL_nil ?_
  refine thn_n ?_
  refine EC_cond_false rfl ?_
  refine EC_skip ?_
  refine thn_n ?_
  refine EC_seq ?_
  refine EC_seq ?_
  rcases (by cases smallE a <;> cases smallE b <;> simp : smallE a = false ∨ (smallE a = true ∧ smallE b = false) ∨ (smallE a = true ∧ smallE b = true)) with hsm | hsm | hsm
  · refine EC_reg ?_
    refine EL_val (.agg ([.int .i64 a.kind, .int .i64 a.writer, .int .i64 a.seq, v14, v17, .int .i64 a.who, .int .i64 a.rights, .int .i64 a.epoch, v23]).toArray) w69 rfl (r_loadAll rfl (S70.arr 2 rfl) Try.underlying25 rfl (by kernel_rfl)) ?_
    refine EL_ret _ rfl Try.func10 rfl nm10 rfl (Small_c [.int .i64 a.kind, .int .i64 a.writer, .int .i64 a.seq, v14, v17, .int .i64 a.who, .int .i64 a.rights, .int .i64 a.epoch, v23] a I71 _ _ S70 ⟨v14, v17, v23, rfl, (by first | assumption | omega | (dsimp only; omega)), (by first | assumption | omega | (dsimp only; omega)), (by first | assumption | omega | (dsimp only; omega)), ⟨o15, (H16.up le72)⟩, ⟨o18, (H19.up le72)⟩, (by first | assumption | omega | (dsimp only; omega)), (by first | assumption | omega | (dsimp only; omega)), (by first | assumption | omega | (dsimp only; omega)), ⟨o24, (H25.up le72)⟩⟩) ?_
    rintro _ w73 ⟨rfl, S74⟩
    refine EL_val (.bool true) w73 rfl (r_dec (show (!false) = true from rfl) (r_not (Eq.trans (show _ = Value.bool (smallE a) from rfl) (congrArg Value.bool (show (smallE a) = false from hsm))))) ?_
    refine EL_val (.bool true) w73 rfl (r_move rfl) ?_
    refine EL_pass 22 rfl rfl rfl rfl rfl ?_
    refine EL_pass 22 rfl rfl rfl rfl rfl ?_
    refine EL_pass 22 rfl rfl rfl rfl rfl ?_
    refine EL_val (.bool true) w73 rfl (r_pickT rfl rfl) ?_
    refine EL_val (.bool true) w73 rfl (r_move rfl) ?_
    refine EL_pass 27 rfl rfl rfl rfl rfl ?_
    refine EL_pass 27 rfl rfl rfl rfl rfl ?_
    refine EL_pass 27 rfl rfl rfl rfl rfl ?_
    refine EL_val (.bool true) w73 rfl (r_pickT rfl rfl) ?_
    refine EL_val (.bool true) w73 rfl (r_move rfl) ?_
    refine EL_pass 32 rfl rfl rfl rfl rfl ?_
    refine EL_pass 32 rfl rfl rfl rfl rfl ?_
    refine EL_pass 32 rfl rfl rfl rfl rfl ?_
    refine EL_pass 32 rfl rfl rfl rfl rfl ?_
    refine EL_pass 32 rfl rfl rfl rfl rfl ?_
    refine EL_val (.bool true) w73 rfl (r_pickT rfl rfl) ?_
    refine EL_nil ?_
    refine thn_n ?_
    refine EC_cond_true rfl ?_
    refine EC_seq ?_
    refine EC_reg ?_
    refine EL_val (.bool true) w73 rfl (r_assign rfl) ?_
    refine EL_nil ?_
    refine thn_n ?_
    refine EC_ret ?_
    refine thn_r ?_
    refine fin1 Try.results3 (show _ = .bool true from rfl) ⟨_, rfl, ?_⟩
    have S75 := S74.dr0
    have S76 := S75.dr0
    have S77 := S76.dr0
    exact ⟨I71, le72, rfl, S77⟩
  · refine EC_reg ?_
    refine EL_val (.agg ([.int .i64 a.kind, .int .i64 a.writer, .int .i64 a.seq, v14, v17, .int .i64 a.who, .int .i64 a.rights, .int .i64 a.epoch, v23]).toArray) w69 rfl (r_loadAll rfl (S70.arr 2 rfl) Try.underlying25 rfl (by kernel_rfl)) ?_
    refine EL_ret _ rfl Try.func10 rfl nm10 rfl (Small_c [.int .i64 a.kind, .int .i64 a.writer, .int .i64 a.seq, v14, v17, .int .i64 a.who, .int .i64 a.rights, .int .i64 a.epoch, v23] a I71 _ _ S70 ⟨v14, v17, v23, rfl, (by first | assumption | omega | (dsimp only; omega)), (by first | assumption | omega | (dsimp only; omega)), (by first | assumption | omega | (dsimp only; omega)), ⟨o15, (H16.up le72)⟩, ⟨o18, (H19.up le72)⟩, (by first | assumption | omega | (dsimp only; omega)), (by first | assumption | omega | (dsimp only; omega)), (by first | assumption | omega | (dsimp only; omega)), ⟨o24, (H25.up le72)⟩⟩) ?_
    rintro _ w78 ⟨rfl, S79⟩
    refine EL_val (.bool false) w78 rfl (r_dec (show (!true) = false from rfl) (r_not (Eq.trans (show _ = Value.bool (smallE a) from rfl) (congrArg Value.bool (show (smallE a) = true from hsm.1))))) ?_
    refine EL_val (.bool false) w78 rfl (r_move rfl) ?_
    refine EL_gval 22 rfl rfl rfl rfl (.agg ([.int .i64 b.kind, .int .i64 b.writer, .int .i64 b.seq, v29, v32, .int .i64 b.who, .int .i64 b.rights, .int .i64 b.epoch, v38]).toArray) w78 rfl (r_loadAll rfl (S79.arr 1 rfl) Try.underlying25 rfl (by kernel_rfl)) ?_
    refine EL_gret 22 rfl rfl rfl rfl _ rfl Try.func10 rfl nm10 rfl (Small_c [.int .i64 b.kind, .int .i64 b.writer, .int .i64 b.seq, v29, v32, .int .i64 b.who, .int .i64 b.rights, .int .i64 b.epoch, v38] b I71 _ _ S79 ⟨v29, v32, v38, rfl, (by first | assumption | omega | (dsimp only; omega)), (by first | assumption | omega | (dsimp only; omega)), (by first | assumption | omega | (dsimp only; omega)), ⟨o30, (H31.up le72)⟩, ⟨o33, (H34.up le72)⟩, (by first | assumption | omega | (dsimp only; omega)), (by first | assumption | omega | (dsimp only; omega)), (by first | assumption | omega | (dsimp only; omega)), ⟨o39, (H40.up le72)⟩⟩) ?_
    rintro _ w80 ⟨rfl, S81⟩
    refine EL_gval 22 rfl rfl rfl rfl (.bool true) w80 rfl (r_dec (show (!false) = true from rfl) (r_not (Eq.trans (show _ = Value.bool (smallE b) from rfl) (congrArg Value.bool (show (smallE b) = false from hsm.2))))) ?_
    refine EL_val (.bool true) w80 rfl (r_pickF rfl rfl) ?_
    refine EL_val (.bool true) w80 rfl (r_move rfl) ?_
    refine EL_pass 27 rfl rfl rfl rfl rfl ?_
    refine EL_pass 27 rfl rfl rfl rfl rfl ?_
    refine EL_pass 27 rfl rfl rfl rfl rfl ?_
    refine EL_val (.bool true) w80 rfl (r_pickT rfl rfl) ?_
    refine EL_val (.bool true) w80 rfl (r_move rfl) ?_
    refine EL_pass 32 rfl rfl rfl rfl rfl ?_
    refine EL_pass 32 rfl rfl rfl rfl rfl ?_
    refine EL_pass 32 rfl rfl rfl rfl rfl ?_
    refine EL_pass 32 rfl rfl rfl rfl rfl ?_
    refine EL_pass 32 rfl rfl rfl rfl rfl ?_
    refine EL_val (.bool true) w80 rfl (r_pickT rfl rfl) ?_
    refine EL_nil ?_
    refine thn_n ?_
    refine EC_cond_true rfl ?_
    refine EC_seq ?_
    refine EC_reg ?_
    refine EL_val (.bool true) w80 rfl (r_assign rfl) ?_
    refine EL_nil ?_
    refine thn_n ?_
    refine EC_ret ?_
    refine thn_r ?_
    refine fin1 Try.results3 (show _ = .bool true from rfl) ⟨_, rfl, ?_⟩
    have S82 := S81.dr0
    have S83 := S82.dr0
    have S84 := S83.dr0
    exact ⟨I71, le72, rfl, S84⟩
  · have hsa := small_iff.1 hsm.1
    have hsb := small_iff.1 hsm.2
    refine EC_reg ?_
    refine EL_val (.agg ([.int .i64 a.kind, .int .i64 a.writer, .int .i64 a.seq, v14, v17, .int .i64 a.who, .int .i64 a.rights, .int .i64 a.epoch, v23]).toArray) w69 rfl (r_loadAll rfl (S70.arr 2 rfl) Try.underlying25 rfl (by kernel_rfl)) ?_
    refine EL_ret _ rfl Try.func10 rfl nm10 rfl (Small_c [.int .i64 a.kind, .int .i64 a.writer, .int .i64 a.seq, v14, v17, .int .i64 a.who, .int .i64 a.rights, .int .i64 a.epoch, v23] a I71 _ _ S70 ⟨v14, v17, v23, rfl, (by first | assumption | omega | (dsimp only; omega)), (by first | assumption | omega | (dsimp only; omega)), (by first | assumption | omega | (dsimp only; omega)), ⟨o15, (H16.up le72)⟩, ⟨o18, (H19.up le72)⟩, (by first | assumption | omega | (dsimp only; omega)), (by first | assumption | omega | (dsimp only; omega)), (by first | assumption | omega | (dsimp only; omega)), ⟨o24, (H25.up le72)⟩⟩) ?_
    rintro _ w85 ⟨rfl, S86⟩
    refine EL_val (.bool false) w85 rfl (r_dec (show (!true) = false from rfl) (r_not (Eq.trans (show _ = Value.bool (smallE a) from rfl) (congrArg Value.bool (show (smallE a) = true from hsm.1))))) ?_
    refine EL_val (.bool false) w85 rfl (r_move rfl) ?_
    refine EL_gval 22 rfl rfl rfl rfl (.agg ([.int .i64 b.kind, .int .i64 b.writer, .int .i64 b.seq, v29, v32, .int .i64 b.who, .int .i64 b.rights, .int .i64 b.epoch, v38]).toArray) w85 rfl (r_loadAll rfl (S86.arr 1 rfl) Try.underlying25 rfl (by kernel_rfl)) ?_
    refine EL_gret 22 rfl rfl rfl rfl _ rfl Try.func10 rfl nm10 rfl (Small_c [.int .i64 b.kind, .int .i64 b.writer, .int .i64 b.seq, v29, v32, .int .i64 b.who, .int .i64 b.rights, .int .i64 b.epoch, v38] b I71 _ _ S86 ⟨v29, v32, v38, rfl, (by first | assumption | omega | (dsimp only; omega)), (by first | assumption | omega | (dsimp only; omega)), (by first | assumption | omega | (dsimp only; omega)), ⟨o30, (H31.up le72)⟩, ⟨o33, (H34.up le72)⟩, (by first | assumption | omega | (dsimp only; omega)), (by first | assumption | omega | (dsimp only; omega)), (by first | assumption | omega | (dsimp only; omega)), ⟨o39, (H40.up le72)⟩⟩) ?_
    rintro _ w87 ⟨rfl, S88⟩
    refine EL_gval 22 rfl rfl rfl rfl (.bool false) w87 rfl (r_dec (show (!true) = false from rfl) (r_not (Eq.trans (show _ = Value.bool (smallE b) from rfl) (congrArg Value.bool (show (smallE b) = true from hsm.2))))) ?_
    refine EL_val (.bool false) w87 rfl (r_pickF rfl rfl) ?_
    refine EL_val (.bool false) w87 rfl (r_move rfl) ?_
    refine EL_gval 27 rfl rfl rfl rfl v2 w87 rfl (r_move rfl) ?_
    refine EL_gval 27 rfl rfl rfl rfl (.int .i64 (secret.length : Int)) w87 rfl (lenB (r_len rfl (Q0 _ (Gh.le_trans le72 S88.le)) Try.underlying22)) ?_
    refine EL_gval 27 rfl rfl rfl rfl (.bool (decide (100 < (secret.length : Int)))) w87 rfl (r_gtr rfl rfl) ?_
    refine EL_val (.bool (decide (100 < (secret.length : Int)))) w87 rfl (r_pickF rfl rfl) ?_
    refine EL_val (.bool (decide (100 < (secret.length : Int)))) w87 rfl (r_move rfl) ?_
    refine EL_gite 32 rfl rfl rfl (ptr b48 1) rfl (fun g89 => r_fieldP (o := 0) (s := 1) rfl Try.underlying25 rfl (by kernel_rfl) (by decide) rfl) ?_
    refine EL_gite 32 rfl rfl rfl (.int .i64 a.writer) rfl (fun g90 => r_loadA (cond_of g90 rfl) (S88.arr 2 rfl) (u := (.int .i64 a.writer)) rfl Try.underlying3 rfl) ?_
    refine EL_gite 32 rfl rfl rfl (ptr b55 1) rfl (fun g91 => r_fieldP (o := 0) (s := 1) rfl Try.underlying25 rfl (by kernel_rfl) (by decide) rfl) ?_
    refine EL_gite 32 rfl rfl rfl (.int .i64 b.writer) rfl (fun g92 => r_loadA (cond_of g92 rfl) (S88.arr 1 rfl) (u := (.int .i64 b.writer)) rfl Try.underlying3 rfl) ?_
    refine EL_gite 32 rfl rfl rfl (.bool (decide (a.writer ≠ b.writer))) rfl (fun g93 => r_neq (cond_of g93 rfl) (cond_of g93 rfl)) ?_
    refine EL_val (.bool ((decide (100 < (secret.length : Int))) || (decide (a.writer ≠ b.writer)))) w87 rfl (r_or rfl rfl rfl) ?_
    refine EL_nil ?_
    refine thn_n ?_
    refine EC_cond (t := (decide (100 < (secret.length : Int))) || (decide (a.writer ≠ b.writer))) rfl (fun h94 => ?_) (fun h94 => ?_)
    · refine EC_seq ?_
      refine EC_reg ?_
      refine EL_val (.bool true) w87 rfl (r_assign rfl) ?_
      refine EL_nil ?_
      refine thn_n ?_
      refine EC_ret ?_
      refine thn_r ?_
      refine fin1 Try.results3 (show _ = .bool true from rfl) ⟨_, rfl, ?_⟩
      have S95 := S88.dr0
      have S96 := S95.dr0
      have S97 := S96.dr0
      exact ⟨I71, le72, rfl, S97⟩
    · have hg : secret.length ≤ 100 ∧ a.writer = b.writer := by simp at h94; omega
      refine EC_skip ?_
      refine thn_n ?_
      refine EC_seq ?_
      refine EC_any 7 (fun w' => Gh.le I71 (gh w')) (fun w' => Arr w' b48 25 [.int .i64 a.kind, .int .i64 a.writer, .int .i64 a.seq, v14, v17, .int .i64 a.who, .int .i64 a.rights, .int .i64 a.epoch, v23] ∧ Arr w' b55 25 [.int .i64 b.kind, .int .i64 b.writer, .int .i64 b.seq, v29, v32, .int .i64 b.who, .int .i64 b.rights, .int .i64 b.epoch, v38]) (by kernel_rfl) ?_
      intro w98 B99
      have S100 := S88.below B99
      refine EJ_take 0 rfl (by kernel_rfl) (by kernel_rfl) (by kernel_rfl) rfl (by kernel_rfl) (.agg ([.int .i64 a.kind, .int .i64 a.writer, .int .i64 a.seq, v14, v17, .int .i64 a.who, .int .i64 a.rights, .int .i64 a.epoch, v23]).toArray) rfl (fun _ hw ht => r_loadAll rfl ht.1 Try.underlying25 rfl (by kernel_rfl)) ⟨S100.le, fun h => ⟨S100.arr 2 rfl, S100.arr 1 rfl⟩⟩ ?_
      refine EJ_take 2 rfl (by kernel_rfl) (by kernel_rfl) (by kernel_rfl) rfl (by kernel_rfl) (.agg ([.int .i64 b.kind, .int .i64 b.writer, .int .i64 b.seq, v29, v32, .int .i64 b.who, .int .i64 b.rights, .int .i64 b.epoch, v38]).toArray) rfl (fun _ hw ht => r_loadAll rfl ht.2 Try.underlying25 rfl (by kernel_rfl)) ⟨S100.le, fun h => ⟨S100.arr 2 rfl, S100.arr 1 rfl⟩⟩ ?_
      refine EJ_rec (fun n' l' J' E' w' => (n' = 6 ∧ l' = marks 8 [0, 2] ∧ E' 2 = v2 ∧ E' 4 = ptr b48 ∧ E' 5 = ptr b55 ∧ E' 7 = ptr b62 ∧ E' 8 = .bool false ∧ E' 39 = .agg ([.int .i64 a.kind, .int .i64 a.writer, .int .i64 a.seq, v14, v17, .int .i64 a.who, .int .i64 a.rights, .int .i64 a.epoch, v23]).toArray ∧ E' 41 = .agg ([.int .i64 b.kind, .int .i64 b.writer, .int .i64 b.seq, v29, v32, .int .i64 b.who, .int .i64 b.rights, .int .i64 b.epoch, v38]).toArray ∧ Gh.le I71 J' ∧ Sat w' J' (Blk b62 27 [.int .i64 r.coll, .int .i64 r.epoch, .int .i64 r.writer, .int .i64 r.count, v45] :: Blk b55 25 [.int .i64 b.kind, .int .i64 b.writer, .int .i64 b.seq, v29, v32, .int .i64 b.who, .int .i64 b.rights, .int .i64 b.epoch, v38] :: Blk b48 25 [.int .i64 a.kind, .int .i64 a.writer, .int .i64 a.seq, v14, v17, .int .i64 a.who, .int .i64 a.rights, .int .i64 a.epoch, v23] :: R)) ∨ (n' = 5 ∧ l' = marks 8 [0, 1, 2] ∧ ∃ v5o1_6 : Value, ∃ v5o1_8 : Value, ∃ v5o1_13 : Value, E' 2 = v2 ∧ E' 4 = ptr b48 ∧ E' 5 = ptr b55 ∧ E' 7 = ptr b62 ∧ E' 8 = .bool false ∧ E' 40 = .agg ([.int .i64 a.kind, .int .i64 a.writer, .int .i64 a.seq, v5o1_6, v5o1_8, .int .i64 a.who, .int .i64 a.rights, .int .i64 a.epoch, v5o1_13]).toArray ∧ E' 41 = .agg ([.int .i64 b.kind, .int .i64 b.writer, .int .i64 b.seq, v29, v32, .int .i64 b.who, .int .i64 b.rights, .int .i64 b.epoch, v38]).toArray ∧ (-9223372036854775808 ≤ a.kind ∧ a.kind ≤ 9223372036854775807) ∧ (-9223372036854775808 ≤ a.writer ∧ a.writer ≤ 9223372036854775807) ∧ (-9223372036854775808 ≤ a.seq ∧ a.seq ≤ 9223372036854775807) ∧ (-9223372036854775808 ≤ a.who ∧ a.who ≤ 9223372036854775807) ∧ (-9223372036854775808 ≤ a.rights ∧ a.rights ≤ 9223372036854775807) ∧ (-9223372036854775808 ≤ a.epoch ∧ a.epoch ≤ 9223372036854775807) ∧ Gh.le I71 J' ∧ RoB J' v5o1_6 a.name ∧ RoB J' v5o1_8 a.value ∧ RoX J' v5o1_13 wrapR a.wraps ∧ Sat w' J' (Blk b62 27 [.int .i64 r.coll, .int .i64 r.epoch, .int .i64 r.writer, .int .i64 r.count, v45] :: Blk b55 25 [.int .i64 b.kind, .int .i64 b.writer, .int .i64 b.seq, v29, v32, .int .i64 b.who, .int .i64 b.rights, .int .i64 b.epoch, v38] :: Blk b48 25 [.int .i64 a.kind, .int .i64 a.writer, .int .i64 a.seq, v14, v17, .int .i64 a.who, .int .i64 a.rights, .int .i64 a.epoch, v23] :: R)) ∨ (n' = 5 ∧ l' = marks 8 [0, 2, 4] ∧ ∃ b5o4_1 : Nat, E' 2 = v2 ∧ E' 4 = ptr b48 ∧ E' 5 = ptr b55 ∧ E' 7 = ptr b62 ∧ E' 8 = .bool false ∧ E' 9 = ptr b5o4_1 ∧ E' 39 = .agg ([.int .i64 a.kind, .int .i64 a.writer, .int .i64 a.seq, v14, v17, .int .i64 a.who, .int .i64 a.rights, .int .i64 a.epoch, v23]).toArray ∧ E' 41 = .agg ([.int .i64 b.kind, .int .i64 b.writer, .int .i64 b.seq, v29, v32, .int .i64 b.who, .int .i64 b.rights, .int .i64 b.epoch, v38]).toArray ∧ Gh.le I71 J' ∧ Sat w' J' (Blk b5o4_1 32 [.int .i64 0, .int .i64 0, .int .i64 0, .slice none 0 0, .slice none 0 0, .int .i64 0, .int .i64 0, .int .i64 0, .slice none 0 0] :: Blk b62 27 [.int .i64 r.coll, .int .i64 r.epoch, .int .i64 r.writer, .int .i64 r.count, v45] :: Blk b55 25 [.int .i64 b.kind, .int .i64 b.writer, .int .i64 b.seq, v29, v32, .int .i64 b.who, .int .i64 b.rights, .int .i64 b.epoch, v38] :: Blk b48 25 [.int .i64 a.kind, .int .i64 a.writer, .int .i64 a.seq, v14, v17, .int .i64 a.who, .int .i64 a.rights, .int .i64 a.epoch, v23] :: R)) ∨ (n' = 5 ∧ l' = marks 8 [0, 2, 5] ∧ ∃ b5o5_1 : Nat, E' 2 = v2 ∧ E' 4 = ptr b48 ∧ E' 5 = ptr b55 ∧ E' 7 = ptr b62 ∧ E' 8 = .bool false ∧ E' 10 = ptr b5o5_1 ∧ E' 39 = .agg ([.int .i64 a.kind, .int .i64 a.writer, .int .i64 a.seq, v14, v17, .int .i64 a.who, .int .i64 a.rights, .int .i64 a.epoch, v23]).toArray ∧ E' 41 = .agg ([.int .i64 b.kind, .int .i64 b.writer, .int .i64 b.seq, v29, v32, .int .i64 b.who, .int .i64 b.rights, .int .i64 b.epoch, v38]).toArray ∧ Gh.le I71 J' ∧ Sat w' J' (Blk b5o5_1 32 [.int .i64 0, .int .i64 0, .int .i64 0, .slice none 0 0, .slice none 0 0, .int .i64 0, .int .i64 0, .int .i64 0, .slice none 0 0] :: Blk b62 27 [.int .i64 r.coll, .int .i64 r.epoch, .int .i64 r.writer, .int .i64 r.count, v45] :: Blk b55 25 [.int .i64 b.kind, .int .i64 b.writer, .int .i64 b.seq, v29, v32, .int .i64 b.who, .int .i64 b.rights, .int .i64 b.epoch, v38] :: Blk b48 25 [.int .i64 a.kind, .int .i64 a.writer, .int .i64 a.seq, v14, v17, .int .i64 a.who, .int .i64 a.rights, .int .i64 a.epoch, v23] :: R)) ∨ (n' = 4 ∧ l' = marks 8 [0, 1, 2, 3] ∧ ∃ v5o1_6 : Value, ∃ v5o1_8 : Value, ∃ v5o1_13 : Value, ∃ v5o3_6 : Value, ∃ v5o3_8 : Value, ∃ v5o3_13 : Value, E' 2 = v2 ∧ E' 4 = ptr b48 ∧ E' 5 = ptr b55 ∧ E' 7 = ptr b62 ∧ E' 8 = .bool false ∧ E' 40 = .agg ([.int .i64 a.kind, .int .i64 a.writer, .int .i64 a.seq, v5o1_6, v5o1_8, .int .i64 a.who, .int .i64 a.rights, .int .i64 a.epoch, v5o1_13]).toArray ∧ E' 42 = .agg ([.int .i64 b.kind, .int .i64 b.writer, .int .i64 b.seq, v5o3_6, v5o3_8, .int .i64 b.who, .int .i64 b.rights, .int .i64 b.epoch, v5o3_13]).toArray ∧ (-9223372036854775808 ≤ a.kind ∧ a.kind ≤ 9223372036854775807) ∧ (-9223372036854775808 ≤ a.writer ∧ a.writer ≤ 9223372036854775807) ∧ (-9223372036854775808 ≤ a.seq ∧ a.seq ≤ 9223372036854775807) ∧ (-9223372036854775808 ≤ a.who ∧ a.who ≤ 9223372036854775807) ∧ (-9223372036854775808 ≤ a.rights ∧ a.rights ≤ 9223372036854775807) ∧ (-9223372036854775808 ≤ a.epoch ∧ a.epoch ≤ 9223372036854775807) ∧ (-9223372036854775808 ≤ b.kind ∧ b.kind ≤ 9223372036854775807) ∧ (-9223372036854775808 ≤ b.writer ∧ b.writer ≤ 9223372036854775807) ∧ (-9223372036854775808 ≤ b.seq ∧ b.seq ≤ 9223372036854775807) ∧ (-9223372036854775808 ≤ b.who ∧ b.who ≤ 9223372036854775807) ∧ (-9223372036854775808 ≤ b.rights ∧ b.rights ≤ 9223372036854775807) ∧ (-9223372036854775808 ≤ b.epoch ∧ b.epoch ≤ 9223372036854775807) ∧ Gh.le I71 J' ∧ RoB J' v5o1_6 a.name ∧ RoB J' v5o1_8 a.value ∧ RoX J' v5o1_13 wrapR a.wraps ∧ RoB J' v5o3_6 b.name ∧ RoB J' v5o3_8 b.value ∧ RoX J' v5o3_13 wrapR b.wraps ∧ Sat w' J' (Blk b62 27 [.int .i64 r.coll, .int .i64 r.epoch, .int .i64 r.writer, .int .i64 r.count, v45] :: Blk b55 25 [.int .i64 b.kind, .int .i64 b.writer, .int .i64 b.seq, v29, v32, .int .i64 b.who, .int .i64 b.rights, .int .i64 b.epoch, v38] :: Blk b48 25 [.int .i64 a.kind, .int .i64 a.writer, .int .i64 a.seq, v14, v17, .int .i64 a.who, .int .i64 a.rights, .int .i64 a.epoch, v23] :: R)) ∨ (n' = 4 ∧ l' = marks 8 [0, 1, 2, 4] ∧ ∃ v5o1_6 : Value, ∃ v5o1_8 : Value, ∃ v5o1_13 : Value, ∃ b5o4_1 : Nat, E' 2 = v2 ∧ E' 4 = ptr b48 ∧ E' 5 = ptr b55 ∧ E' 7 = ptr b62 ∧ E' 8 = .bool false ∧ E' 9 = ptr b5o4_1 ∧ E' 40 = .agg ([.int .i64 a.kind, .int .i64 a.writer, .int .i64 a.seq, v5o1_6, v5o1_8, .int .i64 a.who, .int .i64 a.rights, .int .i64 a.epoch, v5o1_13]).toArray ∧ E' 41 = .agg ([.int .i64 b.kind, .int .i64 b.writer, .int .i64 b.seq, v29, v32, .int .i64 b.who, .int .i64 b.rights, .int .i64 b.epoch, v38]).toArray ∧ (-9223372036854775808 ≤ a.kind ∧ a.kind ≤ 9223372036854775807) ∧ (-9223372036854775808 ≤ a.writer ∧ a.writer ≤ 9223372036854775807) ∧ (-9223372036854775808 ≤ a.seq ∧ a.seq ≤ 9223372036854775807) ∧ (-9223372036854775808 ≤ a.who ∧ a.who ≤ 9223372036854775807) ∧ (-9223372036854775808 ≤ a.rights ∧ a.rights ≤ 9223372036854775807) ∧ (-9223372036854775808 ≤ a.epoch ∧ a.epoch ≤ 9223372036854775807) ∧ Gh.le I71 J' ∧ RoB J' v5o1_6 a.name ∧ RoB J' v5o1_8 a.value ∧ RoX J' v5o1_13 wrapR a.wraps ∧ Sat w' J' (Blk b5o4_1 32 [.int .i64 0, .int .i64 0, .int .i64 0, .slice none 0 0, .slice none 0 0, .int .i64 0, .int .i64 0, .int .i64 0, .slice none 0 0] :: Blk b62 27 [.int .i64 r.coll, .int .i64 r.epoch, .int .i64 r.writer, .int .i64 r.count, v45] :: Blk b55 25 [.int .i64 b.kind, .int .i64 b.writer, .int .i64 b.seq, v29, v32, .int .i64 b.who, .int .i64 b.rights, .int .i64 b.epoch, v38] :: Blk b48 25 [.int .i64 a.kind, .int .i64 a.writer, .int .i64 a.seq, v14, v17, .int .i64 a.who, .int .i64 a.rights, .int .i64 a.epoch, v23] :: R)) ∨ (n' = 4 ∧ l' = marks 8 [0, 1, 2, 5] ∧ ∃ v5o1_6 : Value, ∃ v5o1_8 : Value, ∃ v5o1_13 : Value, ∃ b5o5_1 : Nat, E' 2 = v2 ∧ E' 4 = ptr b48 ∧ E' 5 = ptr b55 ∧ E' 7 = ptr b62 ∧ E' 8 = .bool false ∧ E' 10 = ptr b5o5_1 ∧ E' 40 = .agg ([.int .i64 a.kind, .int .i64 a.writer, .int .i64 a.seq, v5o1_6, v5o1_8, .int .i64 a.who, .int .i64 a.rights, .int .i64 a.epoch, v5o1_13]).toArray ∧ E' 41 = .agg ([.int .i64 b.kind, .int .i64 b.writer, .int .i64 b.seq, v29, v32, .int .i64 b.who, .int .i64 b.rights, .int .i64 b.epoch, v38]).toArray ∧ (-9223372036854775808 ≤ a.kind ∧ a.kind ≤ 9223372036854775807) ∧ (-9223372036854775808 ≤ a.writer ∧ a.writer ≤ 9223372036854775807) ∧ (-9223372036854775808 ≤ a.seq ∧ a.seq ≤ 9223372036854775807) ∧ (-9223372036854775808 ≤ a.who ∧ a.who ≤ 9223372036854775807) ∧ (-9223372036854775808 ≤ a.rights ∧ a.rights ≤ 9223372036854775807) ∧ (-9223372036854775808 ≤ a.epoch ∧ a.epoch ≤ 9223372036854775807) ∧ Gh.le I71 J' ∧ RoB J' v5o1_6 a.name ∧ RoB J' v5o1_8 a.value ∧ RoX J' v5o1_13 wrapR a.wraps ∧ Sat w' J' (Blk b5o5_1 32 [.int .i64 0, .int .i64 0, .int .i64 0, .slice none 0 0, .slice none 0 0, .int .i64 0, .int .i64 0, .int .i64 0, .slice none 0 0] :: Blk b62 27 [.int .i64 r.coll, .int .i64 r.epoch, .int .i64 r.writer, .int .i64 r.count, v45] :: Blk b55 25 [.int .i64 b.kind, .int .i64 b.writer, .int .i64 b.seq, v29, v32, .int .i64 b.who, .int .i64 b.rights, .int .i64 b.epoch, v38] :: Blk b48 25 [.int .i64 a.kind, .int .i64 a.writer, .int .i64 a.seq, v14, v17, .int .i64 a.who, .int .i64 a.rights, .int .i64 a.epoch, v23] :: R)) ∨ (n' = 4 ∧ l' = marks 8 [0, 2, 4, 5] ∧ ∃ b5o4_1 : Nat, ∃ b5o5_1 : Nat, E' 2 = v2 ∧ E' 4 = ptr b48 ∧ E' 5 = ptr b55 ∧ E' 7 = ptr b62 ∧ E' 8 = .bool false ∧ E' 9 = ptr b5o4_1 ∧ E' 10 = ptr b5o5_1 ∧ E' 39 = .agg ([.int .i64 a.kind, .int .i64 a.writer, .int .i64 a.seq, v14, v17, .int .i64 a.who, .int .i64 a.rights, .int .i64 a.epoch, v23]).toArray ∧ E' 41 = .agg ([.int .i64 b.kind, .int .i64 b.writer, .int .i64 b.seq, v29, v32, .int .i64 b.who, .int .i64 b.rights, .int .i64 b.epoch, v38]).toArray ∧ Gh.le I71 J' ∧ Sat w' J' (Blk b5o5_1 32 [.int .i64 0, .int .i64 0, .int .i64 0, .slice none 0 0, .slice none 0 0, .int .i64 0, .int .i64 0, .int .i64 0, .slice none 0 0] :: Blk b5o4_1 32 [.int .i64 0, .int .i64 0, .int .i64 0, .slice none 0 0, .slice none 0 0, .int .i64 0, .int .i64 0, .int .i64 0, .slice none 0 0] :: Blk b62 27 [.int .i64 r.coll, .int .i64 r.epoch, .int .i64 r.writer, .int .i64 r.count, v45] :: Blk b55 25 [.int .i64 b.kind, .int .i64 b.writer, .int .i64 b.seq, v29, v32, .int .i64 b.who, .int .i64 b.rights, .int .i64 b.epoch, v38] :: Blk b48 25 [.int .i64 a.kind, .int .i64 a.writer, .int .i64 a.seq, v14, v17, .int .i64 a.who, .int .i64 a.rights, .int .i64 a.epoch, v23] :: R)) ∨ (n' = 3 ∧ l' = marks 8 [0, 1, 2, 3, 4] ∧ ∃ v5o1_6 : Value, ∃ v5o1_8 : Value, ∃ v5o1_13 : Value, ∃ v5o3_6 : Value, ∃ v5o3_8 : Value, ∃ v5o3_13 : Value, ∃ b5o4_1 : Nat, E' 2 = v2 ∧ E' 4 = ptr b48 ∧ E' 5 = ptr b55 ∧ E' 7 = ptr b62 ∧ E' 8 = .bool false ∧ E' 9 = ptr b5o4_1 ∧ E' 40 = .agg ([.int .i64 a.kind, .int .i64 a.writer, .int .i64 a.seq, v5o1_6, v5o1_8, .int .i64 a.who, .int .i64 a.rights, .int .i64 a.epoch, v5o1_13]).toArray ∧ E' 42 = .agg ([.int .i64 b.kind, .int .i64 b.writer, .int .i64 b.seq, v5o3_6, v5o3_8, .int .i64 b.who, .int .i64 b.rights, .int .i64 b.epoch, v5o3_13]).toArray ∧ (-9223372036854775808 ≤ a.kind ∧ a.kind ≤ 9223372036854775807) ∧ (-9223372036854775808 ≤ a.writer ∧ a.writer ≤ 9223372036854775807) ∧ (-9223372036854775808 ≤ a.seq ∧ a.seq ≤ 9223372036854775807) ∧ (-9223372036854775808 ≤ a.who ∧ a.who ≤ 9223372036854775807) ∧ (-9223372036854775808 ≤ a.rights ∧ a.rights ≤ 9223372036854775807) ∧ (-9223372036854775808 ≤ a.epoch ∧ a.epoch ≤ 9223372036854775807) ∧ (-9223372036854775808 ≤ b.kind ∧ b.kind ≤ 9223372036854775807) ∧ (-9223372036854775808 ≤ b.writer ∧ b.writer ≤ 9223372036854775807) ∧ (-9223372036854775808 ≤ b.seq ∧ b.seq ≤ 9223372036854775807) ∧ (-9223372036854775808 ≤ b.who ∧ b.who ≤ 9223372036854775807) ∧ (-9223372036854775808 ≤ b.rights ∧ b.rights ≤ 9223372036854775807) ∧ (-9223372036854775808 ≤ b.epoch ∧ b.epoch ≤ 9223372036854775807) ∧ Gh.le I71 J' ∧ RoB J' v5o1_6 a.name ∧ RoB J' v5o1_8 a.value ∧ RoX J' v5o1_13 wrapR a.wraps ∧ RoB J' v5o3_6 b.name ∧ RoB J' v5o3_8 b.value ∧ RoX J' v5o3_13 wrapR b.wraps ∧ Sat w' J' (Blk b5o4_1 32 [.int .i64 0, .int .i64 0, .int .i64 0, .slice none 0 0, .slice none 0 0, .int .i64 0, .int .i64 0, .int .i64 0, .slice none 0 0] :: Blk b62 27 [.int .i64 r.coll, .int .i64 r.epoch, .int .i64 r.writer, .int .i64 r.count, v45] :: Blk b55 25 [.int .i64 b.kind, .int .i64 b.writer, .int .i64 b.seq, v29, v32, .int .i64 b.who, .int .i64 b.rights, .int .i64 b.epoch, v38] :: Blk b48 25 [.int .i64 a.kind, .int .i64 a.writer, .int .i64 a.seq, v14, v17, .int .i64 a.who, .int .i64 a.rights, .int .i64 a.epoch, v23] :: R)) ∨ (n' = 3 ∧ l' = marks 8 [0, 1, 2, 3, 5] ∧ ∃ v5o1_6 : Value, ∃ v5o1_8 : Value, ∃ v5o1_13 : Value, ∃ v5o3_6 : Value, ∃ v5o3_8 : Value, ∃ v5o3_13 : Value, ∃ b5o5_1 : Nat, E' 2 = v2 ∧ E' 4 = ptr b48 ∧ E' 5 = ptr b55 ∧ E' 7 = ptr b62 ∧ E' 8 = .bool false ∧ E' 10 = ptr b5o5_1 ∧ E' 40 = .agg ([.int .i64 a.kind, .int .i64 a.writer, .int .i64 a.seq, v5o1_6, v5o1_8, .int .i64 a.who, .int .i64 a.rights, .int .i64 a.epoch, v5o1_13]).toArray ∧ E' 42 = .agg ([.int .i64 b.kind, .int .i64 b.writer, .int .i64 b.seq, v5o3_6, v5o3_8, .int .i64 b.who, .int .i64 b.rights, .int .i64 b.epoch, v5o3_13]).toArray ∧ (-9223372036854775808 ≤ a.kind ∧ a.kind ≤ 9223372036854775807) ∧ (-9223372036854775808 ≤ a.writer ∧ a.writer ≤ 9223372036854775807) ∧ (-9223372036854775808 ≤ a.seq ∧ a.seq ≤ 9223372036854775807) ∧ (-9223372036854775808 ≤ a.who ∧ a.who ≤ 9223372036854775807) ∧ (-9223372036854775808 ≤ a.rights ∧ a.rights ≤ 9223372036854775807) ∧ (-9223372036854775808 ≤ a.epoch ∧ a.epoch ≤ 9223372036854775807) ∧ (-9223372036854775808 ≤ b.kind ∧ b.kind ≤ 9223372036854775807) ∧ (-9223372036854775808 ≤ b.writer ∧ b.writer ≤ 9223372036854775807) ∧ (-9223372036854775808 ≤ b.seq ∧ b.seq ≤ 9223372036854775807) ∧ (-9223372036854775808 ≤ b.who ∧ b.who ≤ 9223372036854775807) ∧ (-9223372036854775808 ≤ b.rights ∧ b.rights ≤ 9223372036854775807) ∧ (-9223372036854775808 ≤ b.epoch ∧ b.epoch ≤ 9223372036854775807) ∧ Gh.le I71 J' ∧ RoB J' v5o1_6 a.name ∧ RoB J' v5o1_8 a.value ∧ RoX J' v5o1_13 wrapR a.wraps ∧ RoB J' v5o3_6 b.name ∧ RoB J' v5o3_8 b.value ∧ RoX J' v5o3_13 wrapR b.wraps ∧ Sat w' J' (Blk b5o5_1 32 [.int .i64 0, .int .i64 0, .int .i64 0, .slice none 0 0, .slice none 0 0, .int .i64 0, .int .i64 0, .int .i64 0, .slice none 0 0] :: Blk b62 27 [.int .i64 r.coll, .int .i64 r.epoch, .int .i64 r.writer, .int .i64 r.count, v45] :: Blk b55 25 [.int .i64 b.kind, .int .i64 b.writer, .int .i64 b.seq, v29, v32, .int .i64 b.who, .int .i64 b.rights, .int .i64 b.epoch, v38] :: Blk b48 25 [.int .i64 a.kind, .int .i64 a.writer, .int .i64 a.seq, v14, v17, .int .i64 a.who, .int .i64 a.rights, .int .i64 a.epoch, v23] :: R)) ∨ (n' = 3 ∧ l' = marks 8 [0, 1, 2, 4, 5] ∧ ∃ v5o1_6 : Value, ∃ v5o1_8 : Value, ∃ v5o1_13 : Value, ∃ b5o4_1 : Nat, ∃ b5o5_1 : Nat, E' 2 = v2 ∧ E' 4 = ptr b48 ∧ E' 5 = ptr b55 ∧ E' 7 = ptr b62 ∧ E' 8 = .bool false ∧ E' 9 = ptr b5o4_1 ∧ E' 10 = ptr b5o5_1 ∧ E' 40 = .agg ([.int .i64 a.kind, .int .i64 a.writer, .int .i64 a.seq, v5o1_6, v5o1_8, .int .i64 a.who, .int .i64 a.rights, .int .i64 a.epoch, v5o1_13]).toArray ∧ E' 41 = .agg ([.int .i64 b.kind, .int .i64 b.writer, .int .i64 b.seq, v29, v32, .int .i64 b.who, .int .i64 b.rights, .int .i64 b.epoch, v38]).toArray ∧ (-9223372036854775808 ≤ a.kind ∧ a.kind ≤ 9223372036854775807) ∧ (-9223372036854775808 ≤ a.writer ∧ a.writer ≤ 9223372036854775807) ∧ (-9223372036854775808 ≤ a.seq ∧ a.seq ≤ 9223372036854775807) ∧ (-9223372036854775808 ≤ a.who ∧ a.who ≤ 9223372036854775807) ∧ (-9223372036854775808 ≤ a.rights ∧ a.rights ≤ 9223372036854775807) ∧ (-9223372036854775808 ≤ a.epoch ∧ a.epoch ≤ 9223372036854775807) ∧ Gh.le I71 J' ∧ RoB J' v5o1_6 a.name ∧ RoB J' v5o1_8 a.value ∧ RoX J' v5o1_13 wrapR a.wraps ∧ Sat w' J' (Blk b5o5_1 32 [.int .i64 0, .int .i64 0, .int .i64 0, .slice none 0 0, .slice none 0 0, .int .i64 0, .int .i64 0, .int .i64 0, .slice none 0 0] :: Blk b5o4_1 32 [.int .i64 0, .int .i64 0, .int .i64 0, .slice none 0 0, .slice none 0 0, .int .i64 0, .int .i64 0, .int .i64 0, .slice none 0 0] :: Blk b62 27 [.int .i64 r.coll, .int .i64 r.epoch, .int .i64 r.writer, .int .i64 r.count, v45] :: Blk b55 25 [.int .i64 b.kind, .int .i64 b.writer, .int .i64 b.seq, v29, v32, .int .i64 b.who, .int .i64 b.rights, .int .i64 b.epoch, v38] :: Blk b48 25 [.int .i64 a.kind, .int .i64 a.writer, .int .i64 a.seq, v14, v17, .int .i64 a.who, .int .i64 a.rights, .int .i64 a.epoch, v23] :: R)) ∨ (n' = 2 ∧ l' = marks 8 [0, 1, 2, 3, 4, 5] ∧ ∃ v5o1_6 : Value, ∃ v5o1_8 : Value, ∃ v5o1_13 : Value, ∃ v5o3_6 : Value, ∃ v5o3_8 : Value, ∃ v5o3_13 : Value, ∃ b5o4_1 : Nat, ∃ b5o5_1 : Nat, E' 2 = v2 ∧ E' 4 = ptr b48 ∧ E' 5 = ptr b55 ∧ E' 7 = ptr b62 ∧ E' 8 = .bool false ∧ E' 9 = ptr b5o4_1 ∧ E' 10 = ptr b5o5_1 ∧ E' 40 = .agg ([.int .i64 a.kind, .int .i64 a.writer, .int .i64 a.seq, v5o1_6, v5o1_8, .int .i64 a.who, .int .i64 a.rights, .int .i64 a.epoch, v5o1_13]).toArray ∧ E' 42 = .agg ([.int .i64 b.kind, .int .i64 b.writer, .int .i64 b.seq, v5o3_6, v5o3_8, .int .i64 b.who, .int .i64 b.rights, .int .i64 b.epoch, v5o3_13]).toArray ∧ (-9223372036854775808 ≤ a.kind ∧ a.kind ≤ 9223372036854775807) ∧ (-9223372036854775808 ≤ a.writer ∧ a.writer ≤ 9223372036854775807) ∧ (-9223372036854775808 ≤ a.seq ∧ a.seq ≤ 9223372036854775807) ∧ (-9223372036854775808 ≤ a.who ∧ a.who ≤ 9223372036854775807) ∧ (-9223372036854775808 ≤ a.rights ∧ a.rights ≤ 9223372036854775807) ∧ (-9223372036854775808 ≤ a.epoch ∧ a.epoch ≤ 9223372036854775807) ∧ (-9223372036854775808 ≤ b.kind ∧ b.kind ≤ 9223372036854775807) ∧ (-9223372036854775808 ≤ b.writer ∧ b.writer ≤ 9223372036854775807) ∧ (-9223372036854775808 ≤ b.seq ∧ b.seq ≤ 9223372036854775807) ∧ (-9223372036854775808 ≤ b.who ∧ b.who ≤ 9223372036854775807) ∧ (-9223372036854775808 ≤ b.rights ∧ b.rights ≤ 9223372036854775807) ∧ (-9223372036854775808 ≤ b.epoch ∧ b.epoch ≤ 9223372036854775807) ∧ Gh.le I71 J' ∧ RoB J' v5o1_6 a.name ∧ RoB J' v5o1_8 a.value ∧ RoX J' v5o1_13 wrapR a.wraps ∧ RoB J' v5o3_6 b.name ∧ RoB J' v5o3_8 b.value ∧ RoX J' v5o3_13 wrapR b.wraps ∧ Sat w' J' (Blk b5o5_1 32 [.int .i64 0, .int .i64 0, .int .i64 0, .slice none 0 0, .slice none 0 0, .int .i64 0, .int .i64 0, .int .i64 0, .slice none 0 0] :: Blk b5o4_1 32 [.int .i64 0, .int .i64 0, .int .i64 0, .slice none 0 0, .slice none 0 0, .int .i64 0, .int .i64 0, .int .i64 0, .slice none 0 0] :: Blk b62 27 [.int .i64 r.coll, .int .i64 r.epoch, .int .i64 r.writer, .int .i64 r.count, v45] :: Blk b55 25 [.int .i64 b.kind, .int .i64 b.writer, .int .i64 b.seq, v29, v32, .int .i64 b.who, .int .i64 b.rights, .int .i64 b.epoch, v38] :: Blk b48 25 [.int .i64 a.kind, .int .i64 a.writer, .int .i64 a.seq, v14, v17, .int .i64 a.who, .int .i64 a.rights, .int .i64 a.epoch, v23] :: R)) ∨ (n' = 1 ∧ l' = marks 8 [0, 1, 2, 3, 4, 5, 6] ∧ ∃ v5o1_6 : Value, ∃ v5o1_8 : Value, ∃ v5o1_13 : Value, ∃ v5o3_6 : Value, ∃ v5o3_8 : Value, ∃ v5o3_13 : Value, ∃ b5o4_1 : Nat, ∃ b5o5_1 : Nat, E' 2 = v2 ∧ E' 4 = ptr b48 ∧ E' 5 = ptr b55 ∧ E' 7 = ptr b62 ∧ E' 8 = .bool false ∧ E' 9 = ptr b5o4_1 ∧ E' 10 = ptr b5o5_1 ∧ E' 42 = .agg ([.int .i64 b.kind, .int .i64 b.writer, .int .i64 b.seq, v5o3_6, v5o3_8, .int .i64 b.who, .int .i64 b.rights, .int .i64 b.epoch, v5o3_13]).toArray ∧ (-9223372036854775808 ≤ a.kind ∧ a.kind ≤ 9223372036854775807) ∧ (-9223372036854775808 ≤ a.writer ∧ a.writer ≤ 9223372036854775807) ∧ (-9223372036854775808 ≤ a.seq ∧ a.seq ≤ 9223372036854775807) ∧ (-9223372036854775808 ≤ a.who ∧ a.who ≤ 9223372036854775807) ∧ (-9223372036854775808 ≤ a.rights ∧ a.rights ≤ 9223372036854775807) ∧ (-9223372036854775808 ≤ a.epoch ∧ a.epoch ≤ 9223372036854775807) ∧ (-9223372036854775808 ≤ b.kind ∧ b.kind ≤ 9223372036854775807) ∧ (-9223372036854775808 ≤ b.writer ∧ b.writer ≤ 9223372036854775807) ∧ (-9223372036854775808 ≤ b.seq ∧ b.seq ≤ 9223372036854775807) ∧ (-9223372036854775808 ≤ b.who ∧ b.who ≤ 9223372036854775807) ∧ (-9223372036854775808 ≤ b.rights ∧ b.rights ≤ 9223372036854775807) ∧ (-9223372036854775808 ≤ b.epoch ∧ b.epoch ≤ 9223372036854775807) ∧ Gh.le I71 J' ∧ RoB J' v5o1_6 a.name ∧ RoB J' v5o1_8 a.value ∧ RoX J' v5o1_13 wrapR a.wraps ∧ RoB J' v5o3_6 b.name ∧ RoB J' v5o3_8 b.value ∧ RoX J' v5o3_13 wrapR b.wraps ∧ Sat w' J' (Blk b5o5_1 32 [.int .i64 0, .int .i64 0, .int .i64 0, .slice none 0 0, .slice none 0 0, .int .i64 0, .int .i64 0, .int .i64 0, .slice none 0 0] :: Blk b5o4_1 32 [.int .i64 a.kind, .int .i64 a.writer, .int .i64 a.seq, v5o1_6, v5o1_8, .int .i64 a.who, .int .i64 a.rights, .int .i64 a.epoch, v5o1_13] :: Blk b62 27 [.int .i64 r.coll, .int .i64 r.epoch, .int .i64 r.writer, .int .i64 r.count, v45] :: Blk b55 25 [.int .i64 b.kind, .int .i64 b.writer, .int .i64 b.seq, v29, v32, .int .i64 b.who, .int .i64 b.rights, .int .i64 b.epoch, v38] :: Blk b48 25 [.int .i64 a.kind, .int .i64 a.writer, .int .i64 a.seq, v14, v17, .int .i64 a.who, .int .i64 a.rights, .int .i64 a.epoch, v23] :: R)) ∨ (n' = 0 ∧ l' = marks 8 [0, 1, 2, 3, 4, 5, 6, 7] ∧ ∃ v5o1_6 : Value, ∃ v5o1_8 : Value, ∃ v5o1_13 : Value, ∃ v5o3_6 : Value, ∃ v5o3_8 : Value, ∃ v5o3_13 : Value, ∃ b5o4_1 : Nat, ∃ b5o5_1 : Nat, E' 2 = v2 ∧ E' 4 = ptr b48 ∧ E' 5 = ptr b55 ∧ E' 7 = ptr b62 ∧ E' 8 = .bool false ∧ E' 9 = ptr b5o4_1 ∧ E' 10 = ptr b5o5_1 ∧ (-9223372036854775808 ≤ a.kind ∧ a.kind ≤ 9223372036854775807) ∧ (-9223372036854775808 ≤ a.writer ∧ a.writer ≤ 9223372036854775807) ∧ (-9223372036854775808 ≤ a.seq ∧ a.seq ≤ 9223372036854775807) ∧ (-9223372036854775808 ≤ a.who ∧ a.who ≤ 9223372036854775807) ∧ (-9223372036854775808 ≤ a.rights ∧ a.rights ≤ 9223372036854775807) ∧ (-9223372036854775808 ≤ a.epoch ∧ a.epoch ≤ 9223372036854775807) ∧ (-9223372036854775808 ≤ b.kind ∧ b.kind ≤ 9223372036854775807) ∧ (-9223372036854775808 ≤ b.writer ∧ b.writer ≤ 9223372036854775807) ∧ (-9223372036854775808 ≤ b.seq ∧ b.seq ≤ 9223372036854775807) ∧ (-9223372036854775808 ≤ b.who ∧ b.who ≤ 9223372036854775807) ∧ (-9223372036854775808 ≤ b.rights ∧ b.rights ≤ 9223372036854775807) ∧ (-9223372036854775808 ≤ b.epoch ∧ b.epoch ≤ 9223372036854775807) ∧ Gh.le I71 J' ∧ RoB J' v5o1_6 a.name ∧ RoB J' v5o1_8 a.value ∧ RoX J' v5o1_13 wrapR a.wraps ∧ RoB J' v5o3_6 b.name ∧ RoB J' v5o3_8 b.value ∧ RoX J' v5o3_13 wrapR b.wraps ∧ Sat w' J' (Blk b5o5_1 32 [.int .i64 b.kind, .int .i64 b.writer, .int .i64 b.seq, v5o3_6, v5o3_8, .int .i64 b.who, .int .i64 b.rights, .int .i64 b.epoch, v5o3_13] :: Blk b5o4_1 32 [.int .i64 a.kind, .int .i64 a.writer, .int .i64 a.seq, v5o1_6, v5o1_8, .int .i64 a.who, .int .i64 a.rights, .int .i64 a.epoch, v5o1_13] :: Blk b62 27 [.int .i64 r.coll, .int .i64 r.epoch, .int .i64 r.writer, .int .i64 r.count, v45] :: Blk b55 25 [.int .i64 b.kind, .int .i64 b.writer, .int .i64 b.seq, v29, v32, .int .i64 b.who, .int .i64 b.rights, .int .i64 b.epoch, v38] :: Blk b48 25 [.int .i64 a.kind, .int .i64 a.writer, .int .i64 a.seq, v14, v17, .int .i64 a.who, .int .i64 a.rights, .int .i64 a.epoch, v23] :: R))) ?_ _ _ _ _ _ (.inl ⟨rfl, (by kernel_rfl), rfl, rfl, rfl, rfl, rfl, rfl, rfl, (Gh.le_refl _), S100⟩)
      rintro _ _ I103 E101 w102 q104 (⟨rfl, rfl, e105, e106, e107, e108, e109, e110, e111, le112, S113⟩ | ⟨rfl, rfl, v5o1_6, v5o1_8, v5o1_13, e114, e115, e116, e117, e118, e119, e120, r5o1_3, r5o1_4, r5o1_5, r5o1_10, r5o1_11, r5o1_12, le121, H122, H123, H124, S125⟩ | ⟨rfl, rfl, b5o4_1, e126, e127, e128, e129, e130, e131, e132, e133, le134, S135⟩ | ⟨rfl, rfl, b5o5_1, e136, e137, e138, e139, e140, e141, e142, e143, le144, S145⟩ | ⟨rfl, rfl, v5o1_6, v5o1_8, v5o1_13, v5o3_6, v5o3_8, v5o3_13, e146, e147, e148, e149, e150, e151, e152, r5o1_3, r5o1_4, r5o1_5, r5o1_10, r5o1_11, r5o1_12, r5o3_3, r5o3_4, r5o3_5, r5o3_10, r5o3_11, r5o3_12, le153, H154, H155, H156, H157, H158, H159, S160⟩ | ⟨rfl, rfl, v5o1_6, v5o1_8, v5o1_13, b5o4_1, e161, e162, e163, e164, e165, e166, e167, e168, r5o1_3, r5o1_4, r5o1_5, r5o1_10, r5o1_11, r5o1_12, le169, H170, H171, H172, S173⟩ | ⟨rfl, rfl, v5o1_6, v5o1_8, v5o1_13, b5o5_1, e174, e175, e176, e177, e178, e179, e180, e181, r5o1_3, r5o1_4, r5o1_5, r5o1_10, r5o1_11, r5o1_12, le182, H183, H184, H185, S186⟩ | ⟨rfl, rfl, b5o4_1, b5o5_1, e187, e188, e189, e190, e191, e192, e193, e194, e195, le196, S197⟩ | ⟨rfl, rfl, v5o1_6, v5o1_8, v5o1_13, v5o3_6, v5o3_8, v5o3_13, b5o4_1, e198, e199, e200, e201, e202, e203, e204, e205, r5o1_3, r5o1_4, r5o1_5, r5o1_10, r5o1_11, r5o1_12, r5o3_3, r5o3_4, r5o3_5, r5o3_10, r5o3_11, r5o3_12, le206, H207, H208, H209, H210, H211, H212, S213⟩ | ⟨rfl, rfl, v5o1_6, v5o1_8, v5o1_13, v5o3_6, v5o3_8, v5o3_13, b5o5_1, e214, e215, e216, e217, e218, e219, e220, e221, r5o1_3, r5o1_4, r5o1_5, r5o1_10, r5o1_11, r5o1_12, r5o3_3, r5o3_4, r5o3_5, r5o3_10, r5o3_11, r5o3_12, le222, H223, H224, H225, H226, H227, H228, S229⟩ | ⟨rfl, rfl, v5o1_6, v5o1_8, v5o1_13, b5o4_1, b5o5_1, e230, e231, e232, e233, e234, e235, e236, e237, e238, r5o1_3, r5o1_4, r5o1_5, r5o1_10, r5o1_11, r5o1_12, le239, H240, H241, H242, S243⟩ | ⟨rfl, rfl, v5o1_6, v5o1_8, v5o1_13, v5o3_6, v5o3_8, v5o3_13, b5o4_1, b5o5_1, e244, e245, e246, e247, e248, e249, e250, e251, e252, r5o1_3, r5o1_4, r5o1_5, r5o1_10, r5o1_11, r5o1_12, r5o3_3, r5o3_4, r5o3_5, r5o3_10, r5o3_11, r5o3_12, le253, H254, H255, H256, H257, H258, H259, S260⟩ | ⟨rfl, rfl, v5o1_6, v5o1_8, v5o1_13, v5o3_6, v5o3_8, v5o3_13, b5o4_1, b5o5_1, e261, e262, e263, e264, e265, e266, e267, e268, r5o1_3, r5o1_4, r5o1_5, r5o1_10, r5o1_11, r5o1_12, r5o3_3, r5o3_4, r5o3_5, r5o3_10, r5o3_11, r5o3_12, le269, H270, H271, H272, H273, H274, H275, S276⟩ | ⟨rfl, rfl, v5o1_6, v5o1_8, v5o1_13, v5o3_6, v5o3_8, v5o3_13, b5o4_1, b5o5_1, e277, e278, e279, e280, e281, e282, e283, r5o1_3, r5o1_4, r5o1_5, r5o1_10, r5o1_11, r5o1_12, r5o3_3, r5o3_4, r5o3_5, r5o3_10, r5o3_11, r5o3_12, le284, H285, H286, H287, H288, H289, H290, S291⟩)
      · refine EJ_three 1 4 5 (by kernel_rfl) ⟨_, rfl, ?_⟩ ⟨_, rfl, ?_⟩ ⟨_, rfl, ?_⟩
        · refine EL_ret _ rfl Try.func11 rfl nm11 (by exact args1 (by exact e110)) (MEntry_c [.int .i64 a.kind, .int .i64 a.writer, .int .i64 a.seq, v14, v17, .int .i64 a.who, .int .i64 a.rights, .int .i64 a.epoch, v23] a I103 _ _ S113 ⟨v14, v17, v23, rfl, (by first | assumption | omega | (dsimp only; omega)), (by first | assumption | omega | (dsimp only; omega)), (by first | assumption | omega | (dsimp only; omega)), ⟨o15, (H16.up (Gh.le_trans le72 le112))⟩, ⟨o18, (H19.up (Gh.le_trans le72 le112))⟩, (by first | assumption | omega | (dsimp only; omega)), (by first | assumption | omega | (dsimp only; omega)), (by first | assumption | omega | (dsimp only; omega)), ⟨o24, (H25.up (Gh.le_trans le72 le112))⟩⟩ (by omega)) ?_
          rintro _ w292 ⟨cs5o1_1, I294, le295, rfl, h5o1_2, S293⟩
          obtain ⟨v5o1_6, v5o1_8, v5o1_13, rfl, r5o1_3, r5o1_4, r5o1_5, ⟨o5o1_7, H296⟩, ⟨o5o1_9, H297⟩, r5o1_10, r5o1_11, r5o1_12, ⟨o5o1_14, H298⟩⟩ := h5o1_2
          refine EL_nil ?_
          refine ⟨rfl, ⟨(Gh.le_trans le295 S293.le), fun h => ⟨S293.arr 2 rfl, S293.arr 1 rfl⟩⟩, ?_⟩
          refine EJ_strong (fun w' => Gh.le I294 (gh w')) _ (fun w' hw => Gh.le_trans le295 hw) (fun w' _ ht => ht) ?_
          exact q104 _ _ _ _ _ (by decide) (.inr (.inl ⟨rfl, (by kernel_rfl), v5o1_6, v5o1_8, v5o1_13, (by exact e105), (by exact e106), (by exact e107), (by exact e108), (by exact e109), rfl, (by exact e111), r5o1_3, r5o1_4, r5o1_5, r5o1_10, r5o1_11, r5o1_12, (Gh.le_trans le112 le295), H296, H297, H298, S293⟩))
        · refine EL_alloc (z := .agg #[.int .i64 0, .int .i64 0, .int .i64 0, .slice none 0 0, .slice none 0 0, .int .i64 0, .int .i64 0, .int .i64 0, .slice none 0 0]) [.int .i64 0, .int .i64 0, .int .i64 0, .slice none 0 0, .slice none 0 0, .int .i64 0, .int .i64 0, .int .i64 0, .slice none 0 0] rfl (by kernel_rfl) rfl ?_
          intro b5o4_1 w299 k300 A301 B302 z303
          have S304 := S113.newB B302 A301 k300
          refine EL_nil ?_
          refine ⟨rfl, ⟨S304.le, fun h => ⟨S304.arr 3 rfl, S304.arr 2 rfl⟩⟩, ?_⟩
          exact q104 _ _ _ _ _ (by decide) (.inr (.inr (.inl ⟨rfl, (by kernel_rfl), b5o4_1, (by exact e105), (by exact e106), (by exact e107), (by exact e108), (by exact e109), rfl, (by exact e110), (by exact e111), le112, S304⟩)))
        · refine EL_alloc (z := .agg #[.int .i64 0, .int .i64 0, .int .i64 0, .slice none 0 0, .slice none 0 0, .int .i64 0, .int .i64 0, .int .i64 0, .slice none 0 0]) [.int .i64 0, .int .i64 0, .int .i64 0, .slice none 0 0, .slice none 0 0, .int .i64 0, .int .i64 0, .int .i64 0, .slice none 0 0] rfl (by kernel_rfl) rfl ?_
          intro b5o5_1 w305 k306 A307 B308 z309
          have S310 := S113.newB B308 A307 k306
          refine EL_nil ?_
          refine ⟨rfl, ⟨S310.le, fun h => ⟨S310.arr 3 rfl, S310.arr 2 rfl⟩⟩, ?_⟩
          exact q104 _ _ _ _ _ (by decide) (.inr (.inr (.inr (.inl ⟨rfl, (by kernel_rfl), b5o5_1, (by exact e105), (by exact e106), (by exact e107), (by exact e108), (by exact e109), rfl, (by exact e110), (by exact e111), le112, S310⟩))))
      · refine EJ_three 3 4 5 (by kernel_rfl) ⟨_, rfl, ?_⟩ ⟨_, rfl, ?_⟩ ⟨_, rfl, ?_⟩
        · refine EL_ret _ rfl Try.func11 rfl nm11 (by exact args1 (by exact e120)) (MEntry_c [.int .i64 b.kind, .int .i64 b.writer, .int .i64 b.seq, v29, v32, .int .i64 b.who, .int .i64 b.rights, .int .i64 b.epoch, v38] b I103 _ _ S125 ⟨v29, v32, v38, rfl, (by first | assumption | omega | (dsimp only; omega)), (by first | assumption | omega | (dsimp only; omega)), (by first | assumption | omega | (dsimp only; omega)), ⟨o30, (H31.up (Gh.le_trans le72 le121))⟩, ⟨o33, (H34.up (Gh.le_trans le72 le121))⟩, (by first | assumption | omega | (dsimp only; omega)), (by first | assumption | omega | (dsimp only; omega)), (by first | assumption | omega | (dsimp only; omega)), ⟨o39, (H40.up (Gh.le_trans le72 le121))⟩⟩ (by omega)) ?_
          rintro _ w311 ⟨cs5o3_1, I313, le314, rfl, h5o3_2, S312⟩
          obtain ⟨v5o3_6, v5o3_8, v5o3_13, rfl, r5o3_3, r5o3_4, r5o3_5, ⟨o5o3_7, H315⟩, ⟨o5o3_9, H316⟩, r5o3_10, r5o3_11, r5o3_12, ⟨o5o3_14, H317⟩⟩ := h5o3_2
          refine EL_nil ?_
          refine ⟨rfl, ⟨(Gh.le_trans le314 S312.le), fun h => ⟨S312.arr 2 rfl, S312.arr 1 rfl⟩⟩, ?_⟩
          refine EJ_strong (fun w' => Gh.le I313 (gh w')) _ (fun w' hw => Gh.le_trans le314 hw) (fun w' _ ht => ht) ?_
          exact q104 _ _ _ _ _ (by decide) (.inr (.inr (.inr (.inr (.inl ⟨rfl, (by kernel_rfl), v5o1_6, v5o1_8, v5o1_13, v5o3_6, v5o3_8, v5o3_13, (by exact e114), (by exact e115), (by exact e116), (by exact e117), (by exact e118), (by exact e119), rfl, r5o1_3, r5o1_4, r5o1_5, r5o1_10, r5o1_11, r5o1_12, r5o3_3, r5o3_4, r5o3_5, r5o3_10, r5o3_11, r5o3_12, (Gh.le_trans le121 le314), (H122.up le314), (H123.up le314), (H124.up le314), H315, H316, H317, S312⟩)))))
        · refine EL_alloc (z := .agg #[.int .i64 0, .int .i64 0, .int .i64 0, .slice none 0 0, .slice none 0 0, .int .i64 0, .int .i64 0, .int .i64 0, .slice none 0 0]) [.int .i64 0, .int .i64 0, .int .i64 0, .slice none 0 0, .slice none 0 0, .int .i64 0, .int .i64 0, .int .i64 0, .slice none 0 0] rfl (by kernel_rfl) rfl ?_
          intro b5o4_1 w318 k319 A320 B321 z322
          have S323 := S125.newB B321 A320 k319
          refine EL_nil ?_
          refine ⟨rfl, ⟨S323.le, fun h => ⟨S323.arr 3 rfl, S323.arr 2 rfl⟩⟩, ?_⟩
          exact q104 _ _ _ _ _ (by decide) (.inr (.inr (.inr (.inr (.inr (.inl ⟨rfl, (by kernel_rfl), v5o1_6, v5o1_8, v5o1_13, b5o4_1, (by exact e114), (by exact e115), (by exact e116), (by exact e117), (by exact e118), rfl, (by exact e119), (by exact e120), r5o1_3, r5o1_4, r5o1_5, r5o1_10, r5o1_11, r5o1_12, le121, H122, H123, H124, S323⟩))))))
        · refine EL_alloc (z := .agg #[.int .i64 0, .int .i64 0, .int .i64 0, .slice none 0 0, .slice none 0 0, .int .i64 0, .int .i64 0, .int .i64 0, .slice none 0 0]) [.int .i64 0, .int .i64 0, .int .i64 0, .slice none 0 0, .slice none 0 0, .int .i64 0, .int .i64 0, .int .i64 0, .slice none 0 0] rfl (by kernel_rfl) rfl ?_
          intro b5o5_1 w324 k325 A326 B327 z328
          have S329 := S125.newB B327 A326 k325
          refine EL_nil ?_
          refine ⟨rfl, ⟨S329.le, fun h => ⟨S329.arr 3 rfl, S329.arr 2 rfl⟩⟩, ?_⟩
          exact q104 _ _ _ _ _ (by decide) (.inr (.inr (.inr (.inr (.inr (.inr (.inl ⟨rfl, (by kernel_rfl), v5o1_6, v5o1_8, v5o1_13, b5o5_1, (by exact e114), (by exact e115), (by exact e116), (by exact e117), (by exact e118), rfl, (by exact e119), (by exact e120), r5o1_3, r5o1_4, r5o1_5, r5o1_10, r5o1_11, r5o1_12, le121, H122, H123, H124, S329⟩)))))))
      · refine EJ_two 1 5 (by kernel_rfl) ⟨_, rfl, ?_⟩ ⟨_, rfl, ?_⟩
        · refine EL_ret _ rfl Try.func11 rfl nm11 (by exact args1 (by exact e132)) (MEntry_c [.int .i64 a.kind, .int .i64 a.writer, .int .i64 a.seq, v14, v17, .int .i64 a.who, .int .i64 a.rights, .int .i64 a.epoch, v23] a I103 _ _ S135 ⟨v14, v17, v23, rfl, (by first | assumption | omega | (dsimp only; omega)), (by first | assumption | omega | (dsimp only; omega)), (by first | assumption | omega | (dsimp only; omega)), ⟨o15, (H16.up (Gh.le_trans le72 le134))⟩, ⟨o18, (H19.up (Gh.le_trans le72 le134))⟩, (by first | assumption | omega | (dsimp only; omega)), (by first | assumption | omega | (dsimp only; omega)), (by first | assumption | omega | (dsimp only; omega)), ⟨o24, (H25.up (Gh.le_trans le72 le134))⟩⟩ (by omega)) ?_
          rintro _ w330 ⟨cs5o1_1, I332, le333, rfl, h5o1_2, S331⟩
          obtain ⟨v5o1_6, v5o1_8, v5o1_13, rfl, r5o1_3, r5o1_4, r5o1_5, ⟨o5o1_7, H334⟩, ⟨o5o1_9, H335⟩, r5o1_10, r5o1_11, r5o1_12, ⟨o5o1_14, H336⟩⟩ := h5o1_2
          refine EL_nil ?_
          refine ⟨rfl, ⟨(Gh.le_trans le333 S331.le), fun h => ⟨S331.arr 3 rfl, S331.arr 2 rfl⟩⟩, ?_⟩
          refine EJ_strong (fun w' => Gh.le I332 (gh w')) _ (fun w' hw => Gh.le_trans le333 hw) (fun w' _ ht => ht) ?_
          exact q104 _ _ _ _ _ (by decide) (.inr (.inr (.inr (.inr (.inr (.inl ⟨rfl, (by kernel_rfl), v5o1_6, v5o1_8, v5o1_13, b5o4_1, (by exact e126), (by exact e127), (by exact e128), (by exact e129), (by exact e130), (by exact e131), rfl, (by exact e133), r5o1_3, r5o1_4, r5o1_5, r5o1_10, r5o1_11, r5o1_12, (Gh.le_trans le134 le333), H334, H335, H336, S331⟩))))))
        · refine EL_alloc (z := .agg #[.int .i64 0, .int .i64 0, .int .i64 0, .slice none 0 0, .slice none 0 0, .int .i64 0, .int .i64 0, .int .i64 0, .slice none 0 0]) [.int .i64 0, .int .i64 0, .int .i64 0, .slice none 0 0, .slice none 0 0, .int .i64 0, .int .i64 0, .int .i64 0, .slice none 0 0] rfl (by kernel_rfl) rfl ?_
          intro b5o5_1 w337 k338 A339 B340 z341
          have S342 := S135.newB B340 A339 k338
          refine EL_nil ?_
          refine ⟨rfl, ⟨S342.le, fun h => ⟨S342.arr 4 rfl, S342.arr 3 rfl⟩⟩, ?_⟩
          exact q104 _ _ _ _ _ (by decide) (.inr (.inr (.inr (.inr (.inr (.inr (.inr (.inl ⟨rfl, (by kernel_rfl), b5o4_1, b5o5_1, (by exact e126), (by exact e127), (by exact e128), (by exact e129), (by exact e130), (by exact e131), rfl, (by exact e132), (by exact e133), le134, S342⟩))))))))
      · refine EJ_two 1 4 (by kernel_rfl) ⟨_, rfl, ?_⟩ ⟨_, rfl, ?_⟩
        · refine EL_ret _ rfl Try.func11 rfl nm11 (by exact args1 (by exact e142)) (MEntry_c [.int .i64 a.kind, .int .i64 a.writer, .int .i64 a.seq, v14, v17, .int .i64 a.who, .int .i64 a.rights, .int .i64 a.epoch, v23] a I103 _ _ S145 ⟨v14, v17, v23, rfl, (by first | assumption | omega | (dsimp only; omega)), (by first | assumption | omega | (dsimp only; omega)), (by first | assumption | omega | (dsimp only; omega)), ⟨o15, (H16.up (Gh.le_trans le72 le144))⟩, ⟨o18, (H19.up (Gh.le_trans le72 le144))⟩, (by first | assumption | omega | (dsimp only; omega)), (by first | assumption | omega | (dsimp only; omega)), (by first | assumption | omega | (dsimp only; omega)), ⟨o24, (H25.up (Gh.le_trans le72 le144))⟩⟩ (by omega)) ?_
          rintro _ w343 ⟨cs5o1_1, I345, le346, rfl, h5o1_2, S344⟩
          obtain ⟨v5o1_6, v5o1_8, v5o1_13, rfl, r5o1_3, r5o1_4, r5o1_5, ⟨o5o1_7, H347⟩, ⟨o5o1_9, H348⟩, r5o1_10, r5o1_11, r5o1_12, ⟨o5o1_14, H349⟩⟩ := h5o1_2
          refine EL_nil ?_
          refine ⟨rfl, ⟨(Gh.le_trans le346 S344.le), fun h => ⟨S344.arr 3 rfl, S344.arr 2 rfl⟩⟩, ?_⟩
          refine EJ_strong (fun w' => Gh.le I345 (gh w')) _ (fun w' hw => Gh.le_trans le346 hw) (fun w' _ ht => ht) ?_
          exact q104 _ _ _ _ _ (by decide) (.inr (.inr (.inr (.inr (.inr (.inr (.inl ⟨rfl, (by kernel_rfl), v5o1_6, v5o1_8, v5o1_13, b5o5_1, (by exact e136), (by exact e137), (by exact e138), (by exact e139), (by exact e140), (by exact e141), rfl, (by exact e143), r5o1_3, r5o1_4, r5o1_5, r5o1_10, r5o1_11, r5o1_12, (Gh.le_trans le144 le346), H347, H348, H349, S344⟩)))))))
        · refine EL_alloc (z := .agg #[.int .i64 0, .int .i64 0, .int .i64 0, .slice none 0 0, .slice none 0 0, .int .i64 0, .int .i64 0, .int .i64 0, .slice none 0 0]) [.int .i64 0, .int .i64 0, .int .i64 0, .slice none 0 0, .slice none 0 0, .int .i64 0, .int .i64 0, .int .i64 0, .slice none 0 0] rfl (by kernel_rfl) rfl ?_
          intro b5o4_1 w350 k351 A352 B353 z354
          have S355 := S145.newB B353 A352 k351
          refine EL_nil ?_
          refine ⟨rfl, ⟨S355.le, fun h => ⟨S355.arr 4 rfl, S355.arr 3 rfl⟩⟩, ?_⟩
          have S356 := S355.fr4
          have S357 := S356.fr4
          have S358 := S357.fr4
          have S359 := S358.fr3
          have S360 := S359.fr4
          exact q104 _ _ _ _ _ (by decide) (.inr (.inr (.inr (.inr (.inr (.inr (.inr (.inl ⟨rfl, (by kernel_rfl), b5o4_1, b5o5_1, (by exact e136), (by exact e137), (by exact e138), (by exact e139), (by exact e140), rfl, (by exact e141), (by exact e142), (by exact e143), le144, S360⟩))))))))
      · refine EJ_two 4 5 (by kernel_rfl) ⟨_, rfl, ?_⟩ ⟨_, rfl, ?_⟩
        · refine EL_alloc (z := .agg #[.int .i64 0, .int .i64 0, .int .i64 0, .slice none 0 0, .slice none 0 0, .int .i64 0, .int .i64 0, .int .i64 0, .slice none 0 0]) [.int .i64 0, .int .i64 0, .int .i64 0, .slice none 0 0, .slice none 0 0, .int .i64 0, .int .i64 0, .int .i64 0, .slice none 0 0] rfl (by kernel_rfl) rfl ?_
          intro b5o4_1 w361 k362 A363 B364 z365
          have S366 := S160.newB B364 A363 k362
          refine EL_nil ?_
          refine ⟨rfl, ⟨S366.le, fun h => ⟨S366.arr 3 rfl, S366.arr 2 rfl⟩⟩, ?_⟩
          exact q104 _ _ _ _ _ (by decide) (.inr (.inr (.inr (.inr (.inr (.inr (.inr (.inr (.inl ⟨rfl, (by kernel_rfl), v5o1_6, v5o1_8, v5o1_13, v5o3_6, v5o3_8, v5o3_13, b5o4_1, (by exact e146), (by exact e147), (by exact e148), (by exact e149), (by exact e150), rfl, (by exact e151), (by exact e152), r5o1_3, r5o1_4, r5o1_5, r5o1_10, r5o1_11, r5o1_12, r5o3_3, r5o3_4, r5o3_5, r5o3_10, r5o3_11, r5o3_12, le153, H154, H155, H156, H157, H158, H159, S366⟩)))))))))
        · refine EL_alloc (z := .agg #[.int .i64 0, .int .i64 0, .int .i64 0, .slice none 0 0, .slice none 0 0, .int .i64 0, .int .i64 0, .int .i64 0, .slice none 0 0]) [.int .i64 0, .int .i64 0, .int .i64 0, .slice none 0 0, .slice none 0 0, .int .i64 0, .int .i64 0, .int .i64 0, .slice none 0 0] rfl (by kernel_rfl) rfl ?_
          intro b5o5_1 w367 k368 A369 B370 z371
          have S372 := S160.newB B370 A369 k368
          refine EL_nil ?_
          refine ⟨rfl, ⟨S372.le, fun h => ⟨S372.arr 3 rfl, S372.arr 2 rfl⟩⟩, ?_⟩
          exact q104 _ _ _ _ _ (by decide) (.inr (.inr (.inr (.inr (.inr (.inr (.inr (.inr (.inr (.inl ⟨rfl, (by kernel_rfl), v5o1_6, v5o1_8, v5o1_13, v5o3_6, v5o3_8, v5o3_13, b5o5_1, (by exact e146), (by exact e147), (by exact e148), (by exact e149), (by exact e150), rfl, (by exact e151), (by exact e152), r5o1_3, r5o1_4, r5o1_5, r5o1_10, r5o1_11, r5o1_12, r5o3_3, r5o3_4, r5o3_5, r5o3_10, r5o3_11, r5o3_12, le153, H154, H155, H156, H157, H158, H159, S372⟩))))))))))
      · refine EJ_two 3 5 (by kernel_rfl) ⟨_, rfl, ?_⟩ ⟨_, rfl, ?_⟩
        · refine EL_ret _ rfl Try.func11 rfl nm11 (by exact args1 (by exact e168)) (MEntry_c [.int .i64 b.kind, .int .i64 b.writer, .int .i64 b.seq, v29, v32, .int .i64 b.who, .int .i64 b.rights, .int .i64 b.epoch, v38] b I103 _ _ S173 ⟨v29, v32, v38, rfl, (by first | assumption | omega | (dsimp only; omega)), (by first | assumption | omega | (dsimp only; omega)), (by first | assumption | omega | (dsimp only; omega)), ⟨o30, (H31.up (Gh.le_trans le72 le169))⟩, ⟨o33, (H34.up (Gh.le_trans le72 le169))⟩, (by first | assumption | omega | (dsimp only; omega)), (by first | assumption | omega | (dsimp only; omega)), (by first | assumption | omega | (dsimp only; omega)), ⟨o39, (H40.up (Gh.le_trans le72 le169))⟩⟩ (by omega)) ?_
          rintro _ w373 ⟨cs5o3_1, I375, le376, rfl, h5o3_2, S374⟩
          obtain ⟨v5o3_6, v5o3_8, v5o3_13, rfl, r5o3_3, r5o3_4, r5o3_5, ⟨o5o3_7, H377⟩, ⟨o5o3_9, H378⟩, r5o3_10, r5o3_11, r5o3_12, ⟨o5o3_14, H379⟩⟩ := h5o3_2
          refine EL_nil ?_
          refine ⟨rfl, ⟨(Gh.le_trans le376 S374.le), fun h => ⟨S374.arr 3 rfl, S374.arr 2 rfl⟩⟩, ?_⟩
          refine EJ_strong (fun w' => Gh.le I375 (gh w')) _ (fun w' hw => Gh.le_trans le376 hw) (fun w' _ ht => ht) ?_
          exact q104 _ _ _ _ _ (by decide) (.inr (.inr (.inr (.inr (.inr (.inr (.inr (.inr (.inl ⟨rfl, (by kernel_rfl), v5o1_6, v5o1_8, v5o1_13, v5o3_6, v5o3_8, v5o3_13, b5o4_1, (by exact e161), (by exact e162), (by exact e163), (by exact e164), (by exact e165), (by exact e166), (by exact e167), rfl, r5o1_3, r5o1_4, r5o1_5, r5o1_10, r5o1_11, r5o1_12, r5o3_3, r5o3_4, r5o3_5, r5o3_10, r5o3_11, r5o3_12, (Gh.le_trans le169 le376), (H170.up le376), (H171.up le376), (H172.up le376), H377, H378, H379, S374⟩)))))))))
        · refine EL_alloc (z := .agg #[.int .i64 0, .int .i64 0, .int .i64 0, .slice none 0 0, .slice none 0 0, .int .i64 0, .int .i64 0, .int .i64 0, .slice none 0 0]) [.int .i64 0, .int .i64 0, .int .i64 0, .slice none 0 0, .slice none 0 0, .int .i64 0, .int .i64 0, .int .i64 0, .slice none 0 0] rfl (by kernel_rfl) rfl ?_
          intro b5o5_1 w380 k381 A382 B383 z384
          have S385 := S173.newB B383 A382 k381
          refine EL_nil ?_
          refine ⟨rfl, ⟨S385.le, fun h => ⟨S385.arr 4 rfl, S385.arr 3 rfl⟩⟩, ?_⟩
          exact q104 _ _ _ _ _ (by decide) (.inr (.inr (.inr (.inr (.inr (.inr (.inr (.inr (.inr (.inr (.inl ⟨rfl, (by kernel_rfl), v5o1_6, v5o1_8, v5o1_13, b5o4_1, b5o5_1, (by exact e161), (by exact e162), (by exact e163), (by exact e164), (by exact e165), (by exact e166), rfl, (by exact e167), (by exact e168), r5o1_3, r5o1_4, r5o1_5, r5o1_10, r5o1_11, r5o1_12, le169, H170, H171, H172, S385⟩)))))))))))
      · refine EJ_two 3 4 (by kernel_rfl) ⟨_, rfl, ?_⟩ ⟨_, rfl, ?_⟩
        · refine EL_ret _ rfl Try.func11 rfl nm11 (by exact args1 (by exact e181)) (MEntry_c [.int .i64 b.kind, .int .i64 b.writer, .int .i64 b.seq, v29, v32, .int .i64 b.who, .int .i64 b.rights, .int .i64 b.epoch, v38] b I103 _ _ S186 ⟨v29, v32, v38, rfl, (by first | assumption | omega | (dsimp only; omega)), (by first | assumption | omega | (dsimp only; omega)), (by first | assumption | omega | (dsimp only; omega)), ⟨o30, (H31.up (Gh.le_trans le72 le182))⟩, ⟨o33, (H34.up (Gh.le_trans le72 le182))⟩, (by first | assumption | omega | (dsimp only; omega)), (by first | assumption | omega | (dsimp only; omega)), (by first | assumption | omega | (dsimp only; omega)), ⟨o39, (H40.up (Gh.le_trans le72 le182))⟩⟩ (by omega)) ?_
          rintro _ w386 ⟨cs5o3_1, I388, le389, rfl, h5o3_2, S387⟩
          obtain ⟨v5o3_6, v5o3_8, v5o3_13, rfl, r5o3_3, r5o3_4, r5o3_5, ⟨o5o3_7, H390⟩, ⟨o5o3_9, H391⟩, r5o3_10, r5o3_11, r5o3_12, ⟨o5o3_14, H392⟩⟩ := h5o3_2
          refine EL_nil ?_
          refine ⟨rfl, ⟨(Gh.le_trans le389 S387.le), fun h => ⟨S387.arr 3 rfl, S387.arr 2 rfl⟩⟩, ?_⟩
          refine EJ_strong (fun w' => Gh.le I388 (gh w')) _ (fun w' hw => Gh.le_trans le389 hw) (fun w' _ ht => ht) ?_
          exact q104 _ _ _ _ _ (by decide) (.inr (.inr (.inr (.inr (.inr (.inr (.inr (.inr (.inr (.inl ⟨rfl, (by kernel_rfl), v5o1_6, v5o1_8, v5o1_13, v5o3_6, v5o3_8, v5o3_13, b5o5_1, (by exact e174), (by exact e175), (by exact e176), (by exact e177), (by exact e178), (by exact e179), (by exact e180), rfl, r5o1_3, r5o1_4, r5o1_5, r5o1_10, r5o1_11, r5o1_12, r5o3_3, r5o3_4, r5o3_5, r5o3_10, r5o3_11, r5o3_12, (Gh.le_trans le182 le389), (H183.up le389), (H184.up le389), (H185.up le389), H390, H391, H392, S387⟩))))))))))
        · refine EL_alloc (z := .agg #[.int .i64 0, .int .i64 0, .int .i64 0, .slice none 0 0, .slice none 0 0, .int .i64 0, .int .i64 0, .int .i64 0, .slice none 0 0]) [.int .i64 0, .int .i64 0, .int .i64 0, .slice none 0 0, .slice none 0 0, .int .i64 0, .int .i64 0, .int .i64 0, .slice none 0 0] rfl (by kernel_rfl) rfl ?_
          intro b5o4_1 w393 k394 A395 B396 z397
          have S398 := S186.newB B396 A395 k394
          refine EL_nil ?_
          refine ⟨rfl, ⟨S398.le, fun h => ⟨S398.arr 4 rfl, S398.arr 3 rfl⟩⟩, ?_⟩
          have S399 := S398.fr4
          have S400 := S399.fr4
          have S401 := S400.fr4
          have S402 := S401.fr3
          have S403 := S402.fr4
          exact q104 _ _ _ _ _ (by decide) (.inr (.inr (.inr (.inr (.inr (.inr (.inr (.inr (.inr (.inr (.inl ⟨rfl, (by kernel_rfl), v5o1_6, v5o1_8, v5o1_13, b5o4_1, b5o5_1, (by exact e174), (by exact e175), (by exact e176), (by exact e177), (by exact e178), rfl, (by exact e179), (by exact e180), (by exact e181), r5o1_3, r5o1_4, r5o1_5, r5o1_10, r5o1_11, r5o1_12, le182, H183, H184, H185, S403⟩)))))))))))
      · refine EJ_one 1 (by kernel_rfl) ⟨_, rfl, ?_⟩
        refine EL_ret _ rfl Try.func11 rfl nm11 (by exact args1 (by exact e194)) (MEntry_c [.int .i64 a.kind, .int .i64 a.writer, .int .i64 a.seq, v14, v17, .int .i64 a.who, .int .i64 a.rights, .int .i64 a.epoch, v23] a I103 _ _ S197 ⟨v14, v17, v23, rfl, (by first | assumption | omega | (dsimp only; omega)), (by first | assumption | omega | (dsimp only; omega)), (by first | assumption | omega | (dsimp only; omega)), ⟨o15, (H16.up (Gh.le_trans le72 le196))⟩, ⟨o18, (H19.up (Gh.le_trans le72 le196))⟩, (by first | assumption | omega | (dsimp only; omega)), (by first | assumption | omega | (dsimp only; omega)), (by first | assumption | omega | (dsimp only; omega)), ⟨o24, (H25.up (Gh.le_trans le72 le196))⟩⟩ (by omega)) ?_
        rintro _ w404 ⟨cs5o1_1, I406, le407, rfl, h5o1_2, S405⟩
        obtain ⟨v5o1_6, v5o1_8, v5o1_13, rfl, r5o1_3, r5o1_4, r5o1_5, ⟨o5o1_7, H408⟩, ⟨o5o1_9, H409⟩, r5o1_10, r5o1_11, r5o1_12, ⟨o5o1_14, H410⟩⟩ := h5o1_2
        refine EL_nil ?_
        refine ⟨rfl, ⟨(Gh.le_trans le407 S405.le), fun h => ⟨S405.arr 4 rfl, S405.arr 3 rfl⟩⟩, ?_⟩
        refine EJ_strong (fun w' => Gh.le I406 (gh w')) _ (fun w' hw => Gh.le_trans le407 hw) (fun w' _ ht => ht) ?_
        exact q104 _ _ _ _ _ (by decide) (.inr (.inr (.inr (.inr (.inr (.inr (.inr (.inr (.inr (.inr (.inl ⟨rfl, (by kernel_rfl), v5o1_6, v5o1_8, v5o1_13, b5o4_1, b5o5_1, (by exact e187), (by exact e188), (by exact e189), (by exact e190), (by exact e191), (by exact e192), (by exact e193), rfl, (by exact e195), r5o1_3, r5o1_4, r5o1_5, r5o1_10, r5o1_11, r5o1_12, (Gh.le_trans le196 le407), H408, H409, H410, S405⟩)))))))))))
      · refine EJ_one 5 (by kernel_rfl) ⟨_, rfl, ?_⟩
        refine EL_alloc (z := .agg #[.int .i64 0, .int .i64 0, .int .i64 0, .slice none 0 0, .slice none 0 0, .int .i64 0, .int .i64 0, .int .i64 0, .slice none 0 0]) [.int .i64 0, .int .i64 0, .int .i64 0, .slice none 0 0, .slice none 0 0, .int .i64 0, .int .i64 0, .int .i64 0, .slice none 0 0] rfl (by kernel_rfl) rfl ?_
        intro b5o5_1 w411 k412 A413 B414 z415
        have S416 := S213.newB B414 A413 k412
        refine EL_nil ?_
        refine ⟨rfl, ⟨S416.le, fun h => ⟨S416.arr 4 rfl, S416.arr 3 rfl⟩⟩, ?_⟩
        exact q104 _ _ _ _ _ (by decide) (.inr (.inr (.inr (.inr (.inr (.inr (.inr (.inr (.inr (.inr (.inr (.inl ⟨rfl, (by kernel_rfl), v5o1_6, v5o1_8, v5o1_13, v5o3_6, v5o3_8, v5o3_13, b5o4_1, b5o5_1, (by exact e198), (by exact e199), (by exact e200), (by exact e201), (by exact e202), (by exact e203), rfl, (by exact e204), (by exact e205), r5o1_3, r5o1_4, r5o1_5, r5o1_10, r5o1_11, r5o1_12, r5o3_3, r5o3_4, r5o3_5, r5o3_10, r5o3_11, r5o3_12, le206, H207, H208, H209, H210, H211, H212, S416⟩))))))))))))
      · refine EJ_one 4 (by kernel_rfl) ⟨_, rfl, ?_⟩
        refine EL_alloc (z := .agg #[.int .i64 0, .int .i64 0, .int .i64 0, .slice none 0 0, .slice none 0 0, .int .i64 0, .int .i64 0, .int .i64 0, .slice none 0 0]) [.int .i64 0, .int .i64 0, .int .i64 0, .slice none 0 0, .slice none 0 0, .int .i64 0, .int .i64 0, .int .i64 0, .slice none 0 0] rfl (by kernel_rfl) rfl ?_
        intro b5o4_1 w417 k418 A419 B420 z421
        have S422 := S229.newB B420 A419 k418
        refine EL_nil ?_
        refine ⟨rfl, ⟨S422.le, fun h => ⟨S422.arr 4 rfl, S422.arr 3 rfl⟩⟩, ?_⟩
        have S423 := S422.fr4
        have S424 := S423.fr4
        have S425 := S424.fr4
        have S426 := S425.fr3
        have S427 := S426.fr4
        exact q104 _ _ _ _ _ (by decide) (.inr (.inr (.inr (.inr (.inr (.inr (.inr (.inr (.inr (.inr (.inr (.inl ⟨rfl, (by kernel_rfl), v5o1_6, v5o1_8, v5o1_13, v5o3_6, v5o3_8, v5o3_13, b5o4_1, b5o5_1, (by exact e214), (by exact e215), (by exact e216), (by exact e217), (by exact e218), rfl, (by exact e219), (by exact e220), (by exact e221), r5o1_3, r5o1_4, r5o1_5, r5o1_10, r5o1_11, r5o1_12, r5o3_3, r5o3_4, r5o3_5, r5o3_10, r5o3_11, r5o3_12, le222, H223, H224, H225, H226, H227, H228, S427⟩))))))))))))
      · refine EJ_one 3 (by kernel_rfl) ⟨_, rfl, ?_⟩
        refine EL_ret _ rfl Try.func11 rfl nm11 (by exact args1 (by exact e238)) (MEntry_c [.int .i64 b.kind, .int .i64 b.writer, .int .i64 b.seq, v29, v32, .int .i64 b.who, .int .i64 b.rights, .int .i64 b.epoch, v38] b I103 _ _ S243 ⟨v29, v32, v38, rfl, (by first | assumption | omega | (dsimp only; omega)), (by first | assumption | omega | (dsimp only; omega)), (by first | assumption | omega | (dsimp only; omega)), ⟨o30, (H31.up (Gh.le_trans le72 le239))⟩, ⟨o33, (H34.up (Gh.le_trans le72 le239))⟩, (by first | assumption | omega | (dsimp only; omega)), (by first | assumption | omega | (dsimp only; omega)), (by first | assumption | omega | (dsimp only; omega)), ⟨o39, (H40.up (Gh.le_trans le72 le239))⟩⟩ (by omega)) ?_
        rintro _ w428 ⟨cs5o3_1, I430, le431, rfl, h5o3_2, S429⟩
        obtain ⟨v5o3_6, v5o3_8, v5o3_13, rfl, r5o3_3, r5o3_4, r5o3_5, ⟨o5o3_7, H432⟩, ⟨o5o3_9, H433⟩, r5o3_10, r5o3_11, r5o3_12, ⟨o5o3_14, H434⟩⟩ := h5o3_2
        refine EL_nil ?_
        refine ⟨rfl, ⟨(Gh.le_trans le431 S429.le), fun h => ⟨S429.arr 4 rfl, S429.arr 3 rfl⟩⟩, ?_⟩
        refine EJ_strong (fun w' => Gh.le I430 (gh w')) _ (fun w' hw => Gh.le_trans le431 hw) (fun w' _ ht => ht) ?_
        exact q104 _ _ _ _ _ (by decide) (.inr (.inr (.inr (.inr (.inr (.inr (.inr (.inr (.inr (.inr (.inr (.inl ⟨rfl, (by kernel_rfl), v5o1_6, v5o1_8, v5o1_13, v5o3_6, v5o3_8, v5o3_13, b5o4_1, b5o5_1, (by exact e230), (by exact e231), (by exact e232), (by exact e233), (by exact e234), (by exact e235), (by exact e236), (by exact e237), rfl, r5o1_3, r5o1_4, r5o1_5, r5o1_10, r5o1_11, r5o1_12, r5o3_3, r5o3_4, r5o3_5, r5o3_10, r5o3_11, r5o3_12, (Gh.le_trans le239 le431), (H240.up le431), (H241.up le431), (H242.up le431), H432, H433, H434, S429⟩))))))))))))
      · refine EJ_one 6 (by kernel_rfl) ⟨_, rfl, ?_⟩
        refine EL_storeAll (v := .agg ([.int .i64 a.kind, .int .i64 a.writer, .int .i64 a.seq, v5o1_6, v5o1_8, .int .i64 a.who, .int .i64 a.rights, .int .i64 a.epoch, v5o1_13]).toArray) (cs' := ([.int .i64 a.kind, .int .i64 a.writer, .int .i64 a.seq, v5o1_6, v5o1_8, .int .i64 a.who, .int .i64 a.rights, .int .i64 a.epoch, v5o1_13]).toArray) (by exact e249) (by exact e251) rfl (S260.arr 1 rfl) rfl (by kernel_rfl) (ones_cons rfl (ones_cons rfl (ones_cons rfl (ones_cons (row_one (H254 _ S260.le)) (ones_cons (row_one (H255 _ S260.le)) (ones_cons rfl (ones_cons rfl (ones_cons rfl (ones_cons (XRow.one (H256.row S260.le)) (fun _ h => nomatch h)))))))))) ?_
        intro w435 A436 K437 z438
        have S439 := S260.wr1 (ds := [.int .i64 a.kind, .int .i64 a.writer, .int .i64 a.seq, v5o1_6, v5o1_8, .int .i64 a.who, .int .i64 a.rights, .int .i64 a.epoch, v5o1_13]) K437 A436
        refine EL_nil ?_
        refine ⟨rfl, ⟨S439.le, fun h => ⟨S439.arr 4 rfl, S439.arr 3 rfl⟩⟩, ?_⟩
        exact q104 _ _ _ _ _ (by decide) (.inr (.inr (.inr (.inr (.inr (.inr (.inr (.inr (.inr (.inr (.inr (.inr (.inl ⟨rfl, (by kernel_rfl), v5o1_6, v5o1_8, v5o1_13, v5o3_6, v5o3_8, v5o3_13, b5o4_1, b5o5_1, (by exact e244), (by exact e245), (by exact e246), (by exact e247), (by exact e248), (by exact e249), (by exact e250), (by exact e252), r5o1_3, r5o1_4, r5o1_5, r5o1_10, r5o1_11, r5o1_12, r5o3_3, r5o3_4, r5o3_5, r5o3_10, r5o3_11, r5o3_12, le253, H254, H255, H256, H257, H258, H259, S439⟩)))))))))))))
      · refine EJ_one 7 (by kernel_rfl) ⟨_, rfl, ?_⟩
        refine EL_storeAll (v := .agg ([.int .i64 b.kind, .int .i64 b.writer, .int .i64 b.seq, v5o3_6, v5o3_8, .int .i64 b.who, .int .i64 b.rights, .int .i64 b.epoch, v5o3_13]).toArray) (cs' := ([.int .i64 b.kind, .int .i64 b.writer, .int .i64 b.seq, v5o3_6, v5o3_8, .int .i64 b.who, .int .i64 b.rights, .int .i64 b.epoch, v5o3_13]).toArray) (by exact e267) (by exact e268) rfl (S276.arr 0 rfl) rfl (by kernel_rfl) (ones_cons rfl (ones_cons rfl (ones_cons rfl (ones_cons (row_one (H273 _ S276.le)) (ones_cons (row_one (H274 _ S276.le)) (ones_cons rfl (ones_cons rfl (ones_cons rfl (ones_cons (XRow.one (H275.row S276.le)) (fun _ h => nomatch h)))))))))) ?_
        intro w440 A441 K442 z443
        have S444 := S276.wr0 (ds := [.int .i64 b.kind, .int .i64 b.writer, .int .i64 b.seq, v5o3_6, v5o3_8, .int .i64 b.who, .int .i64 b.rights, .int .i64 b.epoch, v5o3_13]) K442 A441
        refine EL_nil ?_
        refine ⟨rfl, ⟨S444.le, fun h => by cases h⟩, ?_⟩
        exact q104 _ _ _ _ _ (by decide) (.inr (.inr (.inr (.inr (.inr (.inr (.inr (.inr (.inr (.inr (.inr (.inr (.inr ⟨rfl, (by kernel_rfl), v5o1_6, v5o1_8, v5o1_13, v5o3_6, v5o3_8, v5o3_13, b5o4_1, b5o5_1, (by exact e261), (by exact e262), (by exact e263), (by exact e264), (by exact e265), (by exact e266), (by exact e267), r5o1_3, r5o1_4, r5o1_5, r5o1_10, r5o1_11, r5o1_12, r5o3_3, r5o3_4, r5o3_5, r5o3_10, r5o3_11, r5o3_12, le269, H270, H271, H272, H273, H274, H275, S444⟩)))))))))))))
      · refine EJ_done (by kernel_rfl) ?_
        refine thn_n ?_
        refine EC_seq ?_
        refine EC_seq ?_
        rcases (by cases a.right <;> cases b.right <;> simp : a.right = false ∨ (a.right = true ∧ b.right = false) ∨ (a.right = true ∧ b.right = true)) with hrr | hrr | hrr
        · refine EC_any 1 (fun w' => Gh.le I103 (gh w')) (fun w' => Arr w' b5o4_1 32 [.int .i64 a.kind, .int .i64 a.writer, .int .i64 a.seq, v5o1_6, v5o1_8, .int .i64 a.who, .int .i64 a.rights, .int .i64 a.epoch, v5o1_13]) (by kernel_rfl) ?_
          intro w445 B446
          have S447 := S291.below B446
          refine EJ_take 0 rfl (by kernel_rfl) (by kernel_rfl) (by kernel_rfl) rfl (by kernel_rfl) (.agg ([.int .i64 a.kind, .int .i64 a.writer, .int .i64 a.seq, v5o1_6, v5o1_8, .int .i64 a.who, .int .i64 a.rights, .int .i64 a.epoch, v5o1_13]).toArray) rfl (fun _ hw ht => r_loadAll (by exact e282) ht Try.underlying32 rfl (by kernel_rfl)) ⟨S447.le, fun h => S447.arr 1 rfl⟩ ?_
          refine EJ_one 1 (by kernel_rfl) ⟨_, rfl, ?_⟩
          refine EL_ret _ rfl Try.func12 rfl nm12 rfl (Right9_c [.int .i64 a.kind, .int .i64 a.writer, .int .i64 a.seq, v5o1_6, v5o1_8, .int .i64 a.who, .int .i64 a.rights, .int .i64 a.epoch, v5o1_13] a I103 _ _ S447 ⟨v5o1_6, v5o1_8, v5o1_13, rfl, (by first | assumption | omega | (dsimp only; omega)), (by first | assumption | omega | (dsimp only; omega)), (by first | assumption | omega | (dsimp only; omega)), ⟨(row_one (H285 _ S447.le)), H285⟩, ⟨(row_one (H286 _ S447.le)), H286⟩, (by first | assumption | omega | (dsimp only; omega)), (by first | assumption | omega | (dsimp only; omega)), (by first | assumption | omega | (dsimp only; omega)), ⟨(XRow.one (H287.row S447.le)), H287⟩⟩) ?_
          rintro _ w448 ⟨rfl, S449⟩
          refine EL_nil ?_
          refine ⟨rfl, ⟨S449.le, fun h => by cases h⟩, ?_⟩
          refine EJ_float 2 rfl (by kernel_rfl) (by kernel_rfl) (by kernel_rfl) rfl (.bool true) rfl (fun _ hw => r_dec (show (!false) = true from rfl) (r_not (Eq.trans (show _ = Value.bool (a.right) from rfl) (congrArg Value.bool (show (a.right) = false from hrr))))) ⟨S449.le, fun h => by cases h⟩ ?_
          refine EJ_float 3 rfl (by kernel_rfl) (by kernel_rfl) (by kernel_rfl) rfl (.bool true) rfl (fun _ hw => r_move rfl) ⟨S449.le, fun h => by cases h⟩ ?_
          obtain ⟨I450, le451, S452, H453⟩ := S449.fk0
          refine EJ_strong (fun w' => Gh.le I450 (gh w')) _ (fun w' hw => Gh.le_trans le451 hw) (fun w' _ ht => ht) ?_
          refine EJ_pass 4 rfl (by kernel_rfl) (by kernel_rfl) (by kernel_rfl) rfl 46 rfl rfl rfl rfl rfl ⟨S452.le, fun h => by cases h⟩ ?_
          refine EJ_pass 5 rfl (by kernel_rfl) (by kernel_rfl) (by kernel_rfl) rfl 46 rfl rfl rfl rfl rfl ⟨S452.le, fun h => by cases h⟩ ?_
          refine EJ_pass 6 rfl (by kernel_rfl) (by kernel_rfl) (by kernel_rfl) rfl 46 rfl rfl rfl rfl rfl ⟨S452.le, fun h => by cases h⟩ ?_
          refine EJ_float 7 rfl (by kernel_rfl) (by kernel_rfl) (by kernel_rfl) rfl (.bool true) rfl (fun _ hw => r_pickT rfl rfl) ⟨S452.le, fun h => by cases h⟩ ?_
          refine EJ_float 8 rfl (by kernel_rfl) (by kernel_rfl) (by kernel_rfl) rfl (.bool true) rfl (fun _ hw => r_move rfl) ⟨S452.le, fun h => by cases h⟩ ?_
          obtain ⟨I454, le455, S456, H457⟩ := S452.fk0
          refine EJ_strong (fun w' => Gh.le I454 (gh w')) _ (fun w' hw => Gh.le_trans le455 hw) (fun w' _ ht => ht) ?_
          refine EJ_pass 9 rfl (by kernel_rfl) (by kernel_rfl) (by kernel_rfl) rfl 51 rfl rfl rfl rfl rfl ⟨S456.le, fun h => by cases h⟩ ?_
          refine EJ_pass 10 rfl (by kernel_rfl) (by kernel_rfl) (by kernel_rfl) rfl 51 rfl rfl rfl rfl rfl ⟨S456.le, fun h => by cases h⟩ ?_
          refine EJ_pass 11 rfl (by kernel_rfl) (by kernel_rfl) (by kernel_rfl) rfl 51 rfl rfl rfl rfl rfl ⟨S456.le, fun h => by cases h⟩ ?_
          refine EJ_pass 12 rfl (by kernel_rfl) (by kernel_rfl) (by kernel_rfl) rfl 51 rfl rfl rfl rfl rfl ⟨S456.le, fun h => by cases h⟩ ?_
          refine EJ_pass 13 rfl (by kernel_rfl) (by kernel_rfl) (by kernel_rfl) rfl 51 rfl rfl rfl rfl rfl ⟨S456.le, fun h => by cases h⟩ ?_
          refine EJ_pass 14 rfl (by kernel_rfl) (by kernel_rfl) (by kernel_rfl) rfl 51 rfl rfl rfl rfl rfl ⟨S456.le, fun h => by cases h⟩ ?_
          refine EJ_pass 15 rfl (by kernel_rfl) (by kernel_rfl) (by kernel_rfl) rfl 51 rfl rfl rfl rfl rfl ⟨S456.le, fun h => by cases h⟩ ?_
          refine EJ_pass 16 rfl (by kernel_rfl) (by kernel_rfl) (by kernel_rfl) rfl 51 rfl rfl rfl rfl rfl ⟨S456.le, fun h => by cases h⟩ ?_
          refine EJ_pass 17 rfl (by kernel_rfl) (by kernel_rfl) (by kernel_rfl) rfl 51 rfl rfl rfl rfl rfl ⟨S456.le, fun h => by cases h⟩ ?_
          refine EJ_pass 18 rfl (by kernel_rfl) (by kernel_rfl) (by kernel_rfl) rfl 51 rfl rfl rfl rfl rfl ⟨S456.le, fun h => by cases h⟩ ?_
          refine EJ_pass 19 rfl (by kernel_rfl) (by kernel_rfl) (by kernel_rfl) rfl 51 rfl rfl rfl rfl rfl ⟨S456.le, fun h => by cases h⟩ ?_
          refine EJ_float 20 rfl (by kernel_rfl) (by kernel_rfl) (by kernel_rfl) rfl (.bool true) rfl (fun _ hw => r_pickT rfl rfl) ⟨S456.le, fun h => by cases h⟩ ?_
          refine EJ_done (by kernel_rfl) ?_
          refine thn_n ?_
          refine EC_cond_true rfl ?_
          refine EC_seq ?_
          refine EC_reg ?_
          refine EL_val (.bool true) w448 rfl (r_assign rfl) ?_
          refine EL_nil ?_
          refine thn_n ?_
          refine EC_ret ?_
          refine thn_r ?_
          refine fin1 Try.results3 (show _ = .bool true from rfl) ⟨_, rfl, ?_⟩
          have S458 := S456.dr0
          have S459 := S458.dr0
          have S460 := S459.dr0
          exact ⟨I454, (Gh.le_trans (Gh.le_trans (Gh.le_trans le72 le284) le451) le455), rfl, S460⟩
        · refine EC_any 5 (fun w' => Gh.le I103 (gh w')) (fun w' => Arr w' b5o4_1 32 [.int .i64 a.kind, .int .i64 a.writer, .int .i64 a.seq, v5o1_6, v5o1_8, .int .i64 a.who, .int .i64 a.rights, .int .i64 a.epoch, v5o1_13] ∧ Arr w' b5o5_1 32 [.int .i64 b.kind, .int .i64 b.writer, .int .i64 b.seq, v5o3_6, v5o3_8, .int .i64 b.who, .int .i64 b.rights, .int .i64 b.epoch, v5o3_13]) (by kernel_rfl) ?_
          intro w461 B462
          have S463 := S291.below B462
          refine EJ_take 0 rfl (by kernel_rfl) (by kernel_rfl) (by kernel_rfl) rfl (by kernel_rfl) (.agg ([.int .i64 a.kind, .int .i64 a.writer, .int .i64 a.seq, v5o1_6, v5o1_8, .int .i64 a.who, .int .i64 a.rights, .int .i64 a.epoch, v5o1_13]).toArray) rfl (fun _ hw ht => r_loadAll (by exact e282) ht.1 Try.underlying32 rfl (by kernel_rfl)) ⟨S463.le, fun h => ⟨S463.arr 1 rfl, S463.arr 0 rfl⟩⟩ ?_
          refine EJ_one 1 (by kernel_rfl) ⟨_, rfl, ?_⟩
          refine EL_ret _ rfl Try.func12 rfl nm12 rfl (Right9_c [.int .i64 a.kind, .int .i64 a.writer, .int .i64 a.seq, v5o1_6, v5o1_8, .int .i64 a.who, .int .i64 a.rights, .int .i64 a.epoch, v5o1_13] a I103 _ _ S463 ⟨v5o1_6, v5o1_8, v5o1_13, rfl, (by first | assumption | omega | (dsimp only; omega)), (by first | assumption | omega | (dsimp only; omega)), (by first | assumption | omega | (dsimp only; omega)), ⟨(row_one (H285 _ S463.le)), H285⟩, ⟨(row_one (H286 _ S463.le)), H286⟩, (by first | assumption | omega | (dsimp only; omega)), (by first | assumption | omega | (dsimp only; omega)), (by first | assumption | omega | (dsimp only; omega)), ⟨(XRow.one (H287.row S463.le)), H287⟩⟩) ?_
          rintro _ w464 ⟨rfl, S465⟩
          refine EL_nil ?_
          refine ⟨rfl, ⟨S465.le, fun h => ⟨S465.arr 1 rfl, S465.arr 0 rfl⟩⟩, ?_⟩
          refine EJ_take 2 rfl (by kernel_rfl) (by kernel_rfl) (by kernel_rfl) rfl (by kernel_rfl) (.bool false) rfl (fun _ hw ht => r_dec (show (!true) = false from rfl) (r_not (Eq.trans (show _ = Value.bool (a.right) from rfl) (congrArg Value.bool (show (a.right) = true from hrr.1))))) ⟨S465.le, fun h => ⟨S465.arr 1 rfl, S465.arr 0 rfl⟩⟩ ?_
          refine EJ_take 3 rfl (by kernel_rfl) (by kernel_rfl) (by kernel_rfl) rfl (by kernel_rfl) (.bool false) rfl (fun _ hw ht => r_move rfl) ⟨S465.le, fun h => ⟨S465.arr 1 rfl, S465.arr 0 rfl⟩⟩ ?_
          refine EJ_gtake 4 rfl (by kernel_rfl) (by kernel_rfl) (by kernel_rfl) rfl (by kernel_rfl) 46 rfl rfl rfl rfl (.agg ([.int .i64 b.kind, .int .i64 b.writer, .int .i64 b.seq, v5o3_6, v5o3_8, .int .i64 b.who, .int .i64 b.rights, .int .i64 b.epoch, v5o3_13]).toArray) rfl (fun _ hw ht => r_loadAll (by exact e283) ht.2 Try.underlying32 rfl (by kernel_rfl)) ⟨S465.le, fun h => ⟨S465.arr 1 rfl, S465.arr 0 rfl⟩⟩ ?_
          refine EJ_one 5 (by kernel_rfl) ⟨_, rfl, ?_⟩
          refine EL_gret 46 rfl rfl rfl rfl _ rfl Try.func12 rfl nm12 rfl (Right9_c [.int .i64 b.kind, .int .i64 b.writer, .int .i64 b.seq, v5o3_6, v5o3_8, .int .i64 b.who, .int .i64 b.rights, .int .i64 b.epoch, v5o3_13] b I103 _ _ S465 ⟨v5o3_6, v5o3_8, v5o3_13, rfl, (by first | assumption | omega | (dsimp only; omega)), (by first | assumption | omega | (dsimp only; omega)), (by first | assumption | omega | (dsimp only; omega)), ⟨(row_one (H288 _ S465.le)), H288⟩, ⟨(row_one (H289 _ S465.le)), H289⟩, (by first | assumption | omega | (dsimp only; omega)), (by first | assumption | omega | (dsimp only; omega)), (by first | assumption | omega | (dsimp only; omega)), ⟨(XRow.one (H290.row S465.le)), H290⟩⟩) ?_
          rintro _ w466 ⟨rfl, S467⟩
          refine EL_nil ?_
          refine ⟨rfl, ⟨S467.le, fun h => by cases h⟩, ?_⟩
          refine EJ_gfloat 6 rfl (by kernel_rfl) (by kernel_rfl) (by kernel_rfl) rfl 46 rfl rfl rfl rfl (.bool true) rfl (fun _ hw => r_dec (show (!false) = true from rfl) (r_not (Eq.trans (show _ = Value.bool (b.right) from rfl) (congrArg Value.bool (show (b.right) = false from hrr.2))))) ⟨S467.le, fun h => by cases h⟩ ?_
          refine EJ_float 7 rfl (by kernel_rfl) (by kernel_rfl) (by kernel_rfl) rfl (.bool true) rfl (fun _ hw => r_pickF rfl rfl) ⟨S467.le, fun h => by cases h⟩ ?_
          refine EJ_float 8 rfl (by kernel_rfl) (by kernel_rfl) (by kernel_rfl) rfl (.bool true) rfl (fun _ hw => r_move rfl) ⟨S467.le, fun h => by cases h⟩ ?_
          obtain ⟨I468, le469, S470, H471⟩ := S467.fk1
          refine EJ_strong (fun w' => Gh.le I468 (gh w')) _ (fun w' hw => Gh.le_trans le469 hw) (fun w' _ ht => ht) ?_
          refine EJ_pass 9 rfl (by kernel_rfl) (by kernel_rfl) (by kernel_rfl) rfl 51 rfl rfl rfl rfl rfl ⟨S470.le, fun h => by cases h⟩ ?_
          refine EJ_pass 10 rfl (by kernel_rfl) (by kernel_rfl) (by kernel_rfl) rfl 51 rfl rfl rfl rfl rfl ⟨S470.le, fun h => by cases h⟩ ?_
          refine EJ_pass 11 rfl (by kernel_rfl) (by kernel_rfl) (by kernel_rfl) rfl 51 rfl rfl rfl rfl rfl ⟨S470.le, fun h => by cases h⟩ ?_
          refine EJ_pass 12 rfl (by kernel_rfl) (by kernel_rfl) (by kernel_rfl) rfl 51 rfl rfl rfl rfl rfl ⟨S470.le, fun h => by cases h⟩ ?_
          refine EJ_pass 13 rfl (by kernel_rfl) (by kernel_rfl) (by kernel_rfl) rfl 51 rfl rfl rfl rfl rfl ⟨S470.le, fun h => by cases h⟩ ?_
          obtain ⟨I472, le473, S474, H475⟩ := S470.fk0
          refine EJ_strong (fun w' => Gh.le I472 (gh w')) _ (fun w' hw => Gh.le_trans le473 hw) (fun w' _ ht => ht) ?_
          refine EJ_pass 14 rfl (by kernel_rfl) (by kernel_rfl) (by kernel_rfl) rfl 51 rfl rfl rfl rfl rfl ⟨S474.le, fun h => by cases h⟩ ?_
          refine EJ_pass 15 rfl (by kernel_rfl) (by kernel_rfl) (by kernel_rfl) rfl 51 rfl rfl rfl rfl rfl ⟨S474.le, fun h => by cases h⟩ ?_
          refine EJ_pass 16 rfl (by kernel_rfl) (by kernel_rfl) (by kernel_rfl) rfl 51 rfl rfl rfl rfl rfl ⟨S474.le, fun h => by cases h⟩ ?_
          refine EJ_pass 17 rfl (by kernel_rfl) (by kernel_rfl) (by kernel_rfl) rfl 51 rfl rfl rfl rfl rfl ⟨S474.le, fun h => by cases h⟩ ?_
          refine EJ_pass 18 rfl (by kernel_rfl) (by kernel_rfl) (by kernel_rfl) rfl 51 rfl rfl rfl rfl rfl ⟨S474.le, fun h => by cases h⟩ ?_
          refine EJ_pass 19 rfl (by kernel_rfl) (by kernel_rfl) (by kernel_rfl) rfl 51 rfl rfl rfl rfl rfl ⟨S474.le, fun h => by cases h⟩ ?_
          refine EJ_float 20 rfl (by kernel_rfl) (by kernel_rfl) (by kernel_rfl) rfl (.bool true) rfl (fun _ hw => r_pickT rfl rfl) ⟨S474.le, fun h => by cases h⟩ ?_
          refine EJ_done (by kernel_rfl) ?_
          refine thn_n ?_
          refine EC_cond_true rfl ?_
          refine EC_seq ?_
          refine EC_reg ?_
          refine EL_val (.bool true) w466 rfl (r_assign rfl) ?_
          refine EL_nil ?_
          refine thn_n ?_
          refine EC_ret ?_
          refine thn_r ?_
          refine fin1 Try.results3 (show _ = .bool true from rfl) ⟨_, rfl, ?_⟩
          have S476 := S474.dr0
          have S477 := S476.dr0
          have S478 := S477.dr0
          exact ⟨I472, (Gh.le_trans (Gh.le_trans (Gh.le_trans le72 le284) le469) le473), rfl, S478⟩
        · have hla := encB_len hrr.1
          have hlb := encB_len hrr.2
          refine EC_any 18 (fun w' => Gh.le I103 (gh w')) (fun w' => Arr w' b5o4_1 32 [.int .i64 a.kind, .int .i64 a.writer, .int .i64 a.seq, v5o1_6, v5o1_8, .int .i64 a.who, .int .i64 a.rights, .int .i64 a.epoch, v5o1_13] ∧ Arr w' b5o5_1 32 [.int .i64 b.kind, .int .i64 b.writer, .int .i64 b.seq, v5o3_6, v5o3_8, .int .i64 b.who, .int .i64 b.rights, .int .i64 b.epoch, v5o3_13]) (by kernel_rfl) ?_
          intro w479 B480
          have S481 := S291.below B480
          refine EJ_take 0 rfl (by kernel_rfl) (by kernel_rfl) (by kernel_rfl) rfl (by kernel_rfl) (.agg ([.int .i64 a.kind, .int .i64 a.writer, .int .i64 a.seq, v5o1_6, v5o1_8, .int .i64 a.who, .int .i64 a.rights, .int .i64 a.epoch, v5o1_13]).toArray) rfl (fun _ hw ht => r_loadAll (by exact e282) ht.1 Try.underlying32 rfl (by kernel_rfl)) ⟨S481.le, fun h => ⟨S481.arr 1 rfl, S481.arr 0 rfl⟩⟩ ?_
          refine EJ_one 1 (by kernel_rfl) ⟨_, rfl, ?_⟩
          refine EL_ret _ rfl Try.func12 rfl nm12 rfl (Right9_c [.int .i64 a.kind, .int .i64 a.writer, .int .i64 a.seq, v5o1_6, v5o1_8, .int .i64 a.who, .int .i64 a.rights, .int .i64 a.epoch, v5o1_13] a I103 _ _ S481 ⟨v5o1_6, v5o1_8, v5o1_13, rfl, (by first | assumption | omega | (dsimp only; omega)), (by first | assumption | omega | (dsimp only; omega)), (by first | assumption | omega | (dsimp only; omega)), ⟨(row_one (H285 _ S481.le)), H285⟩, ⟨(row_one (H286 _ S481.le)), H286⟩, (by first | assumption | omega | (dsimp only; omega)), (by first | assumption | omega | (dsimp only; omega)), (by first | assumption | omega | (dsimp only; omega)), ⟨(XRow.one (H287.row S481.le)), H287⟩⟩) ?_
          rintro _ w482 ⟨rfl, S483⟩
          refine EL_nil ?_
          refine ⟨rfl, ⟨S483.le, fun h => ⟨S483.arr 1 rfl, S483.arr 0 rfl⟩⟩, ?_⟩
          refine EJ_take 2 rfl (by kernel_rfl) (by kernel_rfl) (by kernel_rfl) rfl (by kernel_rfl) (.bool false) rfl (fun _ hw ht => r_dec (show (!true) = false from rfl) (r_not (Eq.trans (show _ = Value.bool (a.right) from rfl) (congrArg Value.bool (show (a.right) = true from hrr.1))))) ⟨S483.le, fun h => ⟨S483.arr 1 rfl, S483.arr 0 rfl⟩⟩ ?_
          refine EJ_take 3 rfl (by kernel_rfl) (by kernel_rfl) (by kernel_rfl) rfl (by kernel_rfl) (.bool false) rfl (fun _ hw ht => r_move rfl) ⟨S483.le, fun h => ⟨S483.arr 1 rfl, S483.arr 0 rfl⟩⟩ ?_
          refine EJ_gtake 4 rfl (by kernel_rfl) (by kernel_rfl) (by kernel_rfl) rfl (by kernel_rfl) 46 rfl rfl rfl rfl (.agg ([.int .i64 b.kind, .int .i64 b.writer, .int .i64 b.seq, v5o3_6, v5o3_8, .int .i64 b.who, .int .i64 b.rights, .int .i64 b.epoch, v5o3_13]).toArray) rfl (fun _ hw ht => r_loadAll (by exact e283) ht.2 Try.underlying32 rfl (by kernel_rfl)) ⟨S483.le, fun h => ⟨S483.arr 1 rfl, S483.arr 0 rfl⟩⟩ ?_
          refine EJ_one 5 (by kernel_rfl) ⟨_, rfl, ?_⟩
          refine EL_gret 46 rfl rfl rfl rfl _ rfl Try.func12 rfl nm12 rfl (Right9_c [.int .i64 b.kind, .int .i64 b.writer, .int .i64 b.seq, v5o3_6, v5o3_8, .int .i64 b.who, .int .i64 b.rights, .int .i64 b.epoch, v5o3_13] b I103 _ _ S483 ⟨v5o3_6, v5o3_8, v5o3_13, rfl, (by first | assumption | omega | (dsimp only; omega)), (by first | assumption | omega | (dsimp only; omega)), (by first | assumption | omega | (dsimp only; omega)), ⟨(row_one (H288 _ S483.le)), H288⟩, ⟨(row_one (H289 _ S483.le)), H289⟩, (by first | assumption | omega | (dsimp only; omega)), (by first | assumption | omega | (dsimp only; omega)), (by first | assumption | omega | (dsimp only; omega)), ⟨(XRow.one (H290.row S483.le)), H290⟩⟩) ?_
          rintro _ w484 ⟨rfl, S485⟩
          refine EL_nil ?_
          refine ⟨rfl, ⟨S485.le, fun h => ⟨S485.arr 1 rfl, S485.arr 0 rfl⟩⟩, ?_⟩
          refine EJ_gtake 6 rfl (by kernel_rfl) (by kernel_rfl) (by kernel_rfl) rfl (by kernel_rfl) 46 rfl rfl rfl rfl (.bool false) rfl (fun _ hw ht => r_dec (show (!true) = false from rfl) (r_not (Eq.trans (show _ = Value.bool (b.right) from rfl) (congrArg Value.bool (show (b.right) = true from hrr.2))))) ⟨S485.le, fun h => ⟨S485.arr 1 rfl, S485.arr 0 rfl⟩⟩ ?_
          refine EJ_take 7 rfl (by kernel_rfl) (by kernel_rfl) (by kernel_rfl) rfl (by kernel_rfl) (.bool false) rfl (fun _ hw ht => r_pickF rfl rfl) ⟨S485.le, fun h => ⟨S485.arr 1 rfl, S485.arr 0 rfl⟩⟩ ?_
          refine EJ_take 8 rfl (by kernel_rfl) (by kernel_rfl) (by kernel_rfl) rfl (by kernel_rfl) (.bool false) rfl (fun _ hw ht => r_move rfl) ⟨S485.le, fun h => ⟨S485.arr 1 rfl, S485.arr 0 rfl⟩⟩ ?_
          refine EJ_gtake 9 rfl (by kernel_rfl) (by kernel_rfl) (by kernel_rfl) rfl (by kernel_rfl) 51 rfl rfl rfl rfl (.agg ([.int .i64 a.kind, .int .i64 a.writer, .int .i64 a.seq, v5o1_6, v5o1_8, .int .i64 a.who, .int .i64 a.rights, .int .i64 a.epoch, v5o1_13]).toArray) rfl (fun _ hw ht => r_loadAll (by exact e282) ht.1 Try.underlying32 rfl (by kernel_rfl)) ⟨S485.le, fun h => ⟨S485.arr 1 rfl, S485.arr 0 rfl⟩⟩ ?_
          refine EJ_gtake 14 rfl (by kernel_rfl) (by kernel_rfl) (by kernel_rfl) rfl (by kernel_rfl) 51 rfl rfl rfl rfl (.agg ([.int .i64 b.kind, .int .i64 b.writer, .int .i64 b.seq, v5o3_6, v5o3_8, .int .i64 b.who, .int .i64 b.rights, .int .i64 b.epoch, v5o3_13]).toArray) rfl (fun _ hw ht => r_loadAll (by exact e283) ht.2 Try.underlying32 rfl (by kernel_rfl)) ⟨S485.le, fun h => ⟨S485.arr 1 rfl, S485.arr 0 rfl⟩⟩ ?_
          refine EJ_one 10 (by kernel_rfl) ⟨_, rfl, ?_⟩
          refine EL_gret 51 rfl rfl rfl rfl _ rfl Try.func14 rfl nm14 rfl (Bytes9_c [.int .i64 a.kind, .int .i64 a.writer, .int .i64 a.seq, v5o1_6, v5o1_8, .int .i64 a.who, .int .i64 a.rights, .int .i64 a.epoch, v5o1_13] a I103 _ _ S485 ⟨v5o1_6, v5o1_8, v5o1_13, rfl, (by first | assumption | omega | (dsimp only; omega)), (by first | assumption | omega | (dsimp only; omega)), (by first | assumption | omega | (dsimp only; omega)), ⟨(row_one (H285 _ S485.le)), H285⟩, ⟨(row_one (H286 _ S485.le)), H286⟩, (by first | assumption | omega | (dsimp only; omega)), (by first | assumption | omega | (dsimp only; omega)), (by first | assumption | omega | (dsimp only; omega)), ⟨(XRow.one (H287.row S485.le)), H287⟩⟩ hrr.1) ?_
          rintro _ w486 ⟨v488, I489, le490, rfl, S487⟩
          refine EL_nil ?_
          refine ⟨rfl, ⟨(Gh.le_trans le490 S487.le), fun h => ⟨S487.arr 2 rfl, S487.arr 1 rfl⟩⟩, ?_⟩
          refine EJ_strong (fun w' => Gh.le I489 (gh w')) _ (fun w' hw => Gh.le_trans le490 hw) (fun w' _ ht => ht) ?_
          obtain ⟨I491, le492, S493, H494⟩ := S487.fb0
          refine EJ_strong (fun w' => Gh.le I491 (gh w')) _ (fun w' hw => Gh.le_trans le492 hw) (fun w' _ ht => ht) ?_
          refine EJ_gtake 11 rfl (by kernel_rfl) (by kernel_rfl) (by kernel_rfl) rfl (by kernel_rfl) 51 rfl rfl rfl rfl (.int .i64 (a.encB.length : Int)) rfl (fun _ hw ht => lenB (r_len rfl (H494 _ hw) Try.underlying22)) ⟨S493.le, fun h => ⟨S493.arr 1 rfl, S493.arr 0 rfl⟩⟩ ?_
          obtain ⟨x495, hx495⟩ : ∃ z : Int, z = (a.encB.length : Int) + 36 := ⟨_, rfl⟩
          refine EJ_gtake 12 rfl (by kernel_rfl) (by kernel_rfl) (by kernel_rfl) rfl (by kernel_rfl) 51 rfl rfl rfl rfl (.int .i64 x495) rfl (fun _ hw ht => by rw [hx495]; exact r_addi rfl rfl (by omega)) ⟨S493.le, fun h => ⟨S493.arr 1 rfl, S493.arr 0 rfl⟩⟩ ?_
          refine EJ_one 13 (by kernel_rfl) ⟨_, rfl, ?_⟩
          refine EL_gret 51 rfl rfl rfl rfl _ rfl Try.func13 rfl nm13 rfl (Size13_c x495 I491 _ _ S493 (by omega)) ?_
          rintro _ w496 ⟨rfl, S497⟩
          refine EL_nil ?_
          refine ⟨rfl, ⟨S497.le, fun h => ⟨S497.arr 1 rfl, S497.arr 0 rfl⟩⟩, ?_⟩
          refine EJ_one 15 (by kernel_rfl) ⟨_, rfl, ?_⟩
          refine EL_gret 51 rfl rfl rfl rfl _ rfl Try.func14 rfl nm14 rfl (Bytes9_c [.int .i64 b.kind, .int .i64 b.writer, .int .i64 b.seq, v5o3_6, v5o3_8, .int .i64 b.who, .int .i64 b.rights, .int .i64 b.epoch, v5o3_13] b I491 _ _ S497 ⟨v5o3_6, v5o3_8, v5o3_13, rfl, (by first | assumption | omega | (dsimp only; omega)), (by first | assumption | omega | (dsimp only; omega)), (by first | assumption | omega | (dsimp only; omega)), ⟨(row_one (H288 _ (Gh.le_trans (Gh.le_trans le490 le492) S497.le))), (H288.up (Gh.le_trans le490 le492))⟩, ⟨(row_one (H289 _ (Gh.le_trans (Gh.le_trans le490 le492) S497.le))), (H289.up (Gh.le_trans le490 le492))⟩, (by first | assumption | omega | (dsimp only; omega)), (by first | assumption | omega | (dsimp only; omega)), (by first | assumption | omega | (dsimp only; omega)), ⟨(XRow.one (H290.row (Gh.le_trans (Gh.le_trans le490 le492) S497.le))), (H290.up (Gh.le_trans le490 le492))⟩⟩ hrr.2) ?_
          rintro _ w498 ⟨v500, I501, le502, rfl, S499⟩
          refine EL_nil ?_
          refine ⟨rfl, ⟨(Gh.le_trans le502 S499.le), fun h => ⟨S499.arr 2 rfl, S499.arr 1 rfl⟩⟩, ?_⟩
          refine EJ_strong (fun w' => Gh.le I501 (gh w')) _ (fun w' hw => Gh.le_trans le502 hw) (fun w' _ ht => ht) ?_
          obtain ⟨I503, le504, S505, H506⟩ := S499.fb0
          refine EJ_strong (fun w' => Gh.le I503 (gh w')) _ (fun w' hw => Gh.le_trans le504 hw) (fun w' _ ht => ht) ?_
          refine EJ_gtake 16 rfl (by kernel_rfl) (by kernel_rfl) (by kernel_rfl) rfl (by kernel_rfl) 51 rfl rfl rfl rfl (.int .i64 (b.encB.length : Int)) rfl (fun _ hw ht => lenB (r_len rfl (H506 _ hw) Try.underlying22)) ⟨S505.le, fun h => ⟨S505.arr 1 rfl, S505.arr 0 rfl⟩⟩ ?_
          obtain ⟨x507, hx507⟩ : ∃ z : Int, z = (b.encB.length : Int) + 36 := ⟨_, rfl⟩
          refine EJ_gtake 17 rfl (by kernel_rfl) (by kernel_rfl) (by kernel_rfl) rfl (by kernel_rfl) 51 rfl rfl rfl rfl (.int .i64 x507) rfl (fun _ hw ht => by rw [hx507]; exact r_addi rfl rfl (by omega)) ⟨S505.le, fun h => ⟨S505.arr 1 rfl, S505.arr 0 rfl⟩⟩ ?_
          refine EJ_one 18 (by kernel_rfl) ⟨_, rfl, ?_⟩
          refine EL_gret 51 rfl rfl rfl rfl _ rfl Try.func13 rfl nm13 rfl (Size13_c x507 I503 _ _ S505 (by omega)) ?_
          rintro _ w508 ⟨rfl, S509⟩
          refine EL_nil ?_
          refine ⟨rfl, ⟨S509.le, fun h => by cases h⟩, ?_⟩
          refine EJ_gfloat 19 rfl (by kernel_rfl) (by kernel_rfl) (by kernel_rfl) rfl 51 rfl rfl rfl rfl (.bool (decide ((bsize x495) ≠ (bsize x507)))) rfl (fun _ hw => r_neq rfl rfl) ⟨S509.le, fun h => by cases h⟩ ?_
          refine EJ_float 20 rfl (by kernel_rfl) (by kernel_rfl) (by kernel_rfl) rfl (.bool (decide ((bsize x495) ≠ (bsize x507)))) rfl (fun _ hw => r_pickF rfl rfl) ⟨S509.le, fun h => by cases h⟩ ?_
          refine EJ_done (by kernel_rfl) ?_
          refine thn_n ?_
          refine EC_if (p := (bsize x495) ≠ (bsize x507)) rfl (fun h510 => ?_) (fun h510 => ?_)
          · refine EC_seq ?_
            refine EC_reg ?_
            refine EL_val (.bool true) w508 rfl (r_assign rfl) ?_
            refine EL_nil ?_
            refine thn_n ?_
            refine EC_ret ?_
            refine thn_r ?_
            refine fin1 Try.results3 (show _ = .bool true from rfl) ⟨_, rfl, ?_⟩
            have S511 := S509.dr0
            have S512 := S511.dr0
            have S513 := S512.dr0
            have S514 := S513.dr0
            have S515 := S514.dr0
            exact ⟨I503, (Gh.le_trans (Gh.le_trans (Gh.le_trans (Gh.le_trans (Gh.le_trans le72 le284) le490) le492) le502) le504), rfl, S515⟩
          · have hsz : bsize ((a.encB.length : Int) + 36) = bsize ((b.encB.length : Int) + 36) := by simpa [hx495, hx507] using h510
            have hh := hides15 (s := secret) (k := signOf 75 1) (r := r) hrr.1 hrr.2 hg.2 hsz
            refine EC_skip ?_
            refine thn_n ?_
            refine EC_seq ?_
            refine EC_reg ?_
            refine EL_ret _ rfl Try.func15 rfl nm15 rfl (Signs_c I503 _ _ S509) ?_
            rintro _ w516 ⟨p518, rfl, S517⟩
            refine EL_ret _ rfl Try.func15 rfl nm15 rfl (Signs_c I503 _ _ S517) ?_
            rintro _ w519 ⟨p521, rfl, S520⟩
            refine EL_val p518 w519 rfl (r_assign rfl) ?_
            refine EL_val p521 w519 rfl (r_assign rfl) ?_
            refine EL_nil ?_
            refine thn_n ?_
            refine EC_cut (fun E' w' => ∃ v9o3_1 : Value, ∃ v9o6_7 : Value, ∃ b9o10_1 : Nat, ∃ J : Gh, E' 2 = v2 ∧ E' 5 = ptr b55 ∧ E' 7 = ptr b62 ∧ E' 8 = .bool false ∧ E' 12 = p521 ∧ E' 13 = ptr b9o10_1 ∧ E' 14 = .int .i64 (sealRE (signOf 75 1) r a) ∧ (-9223372036854775808 ≤ (sealRR [tKey] secret (signOf 75 1) r a).coll ∧ (sealRR [tKey] secret (signOf 75 1) r a).coll ≤ 9223372036854775807) ∧ (-9223372036854775808 ≤ (sealRR [tKey] secret (signOf 75 1) r a).epoch ∧ (sealRR [tKey] secret (signOf 75 1) r a).epoch ≤ 9223372036854775807) ∧ (-9223372036854775808 ≤ (sealRR [tKey] secret (signOf 75 1) r a).writer ∧ (sealRR [tKey] secret (signOf 75 1) r a).writer ≤ 9223372036854775807) ∧ (-9223372036854775808 ≤ (sealRR [tKey] secret (signOf 75 1) r a).count ∧ (sealRR [tKey] secret (signOf 75 1) r a).count ≤ 9223372036854775807) ∧ Gh.le I503 J ∧ RoB J v9o3_1 (signOf 75 1) ∧ RoB J v9o6_7 ((sealRR [tKey] secret (signOf 75 1) r a).box) ∧ Sat w' J (Blk b9o10_1 27 [.int .i64 ((sealRR [tKey] secret (signOf 75 1) r a).coll), .int .i64 ((sealRR [tKey] secret (signOf 75 1) r a).epoch), .int .i64 ((sealRR [tKey] secret (signOf 75 1) r a).writer), .int .i64 ((sealRR [tKey] secret (signOf 75 1) r a).count), v9o6_7] :: Suite p518 (sealRL [tKey] secret (signOf 75 1) r a) :: Suite p521 ([] : List Thing) :: Blk b5o5_1 32 [.int .i64 b.kind, .int .i64 b.writer, .int .i64 b.seq, v5o3_6, v5o3_8, .int .i64 b.who, .int .i64 b.rights, .int .i64 b.epoch, v5o3_13] :: Blk b5o4_1 32 [.int .i64 a.kind, .int .i64 a.writer, .int .i64 a.seq, v5o1_6, v5o1_8, .int .i64 a.who, .int .i64 a.rights, .int .i64 a.epoch, v5o1_13] :: Blk b62 27 [.int .i64 r.coll, .int .i64 r.epoch, .int .i64 r.writer, .int .i64 r.count, v45] :: Blk b55 25 [.int .i64 b.kind, .int .i64 b.writer, .int .i64 b.seq, v29, v32, .int .i64 b.who, .int .i64 b.rights, .int .i64 b.epoch, v38] :: Blk b48 25 [.int .i64 a.kind, .int .i64 a.writer, .int .i64 a.seq, v14, v17, .int .i64 a.who, .int .i64 a.rights, .int .i64 a.epoch, v23] :: R)) ?_ ?_
            · refine EC_any 11 (fun w' => Gh.le I503 (gh w')) (fun w' => Arr w' b62 27 [.int .i64 r.coll, .int .i64 r.epoch, .int .i64 r.writer, .int .i64 r.count, v45] ∧ Arr w' b48 25 [.int .i64 a.kind, .int .i64 a.writer, .int .i64 a.seq, v14, v17, .int .i64 a.who, .int .i64 a.rights, .int .i64 a.epoch, v23]) (by kernel_rfl) ?_
              intro w522 B523
              have S524 := S520.below B523
              refine EJ_take 0 rfl (by kernel_rfl) (by kernel_rfl) (by kernel_rfl) rfl (by kernel_rfl) p518 rfl (fun _ hw ht => r_move rfl) ⟨S524.le, fun h => ⟨S524.arr 4 rfl, S524.arr 6 rfl⟩⟩ ?_
              refine EJ_take 1 rfl (by kernel_rfl) (by kernel_rfl) (by kernel_rfl) rfl (by kernel_rfl) v2 rfl (fun _ hw ht => r_move (by exact e277)) ⟨S524.le, fun h => ⟨S524.arr 4 rfl, S524.arr 6 rfl⟩⟩ ?_
              refine EJ_take 2 rfl (by kernel_rfl) (by kernel_rfl) (by kernel_rfl) rfl (by kernel_rfl) p518 rfl (fun _ hw ht => r_move rfl) ⟨S524.le, fun h => ⟨S524.arr 4 rfl, S524.arr 6 rfl⟩⟩ ?_
              refine EJ_take 4 rfl (by kernel_rfl) (by kernel_rfl) (by kernel_rfl) rfl (by kernel_rfl) (.agg ([.int .i64 r.coll, .int .i64 r.epoch, .int .i64 r.writer, .int .i64 r.count, v45]).toArray) rfl (fun _ hw ht => r_loadAll (by exact e280) ht.1 Try.underlying27 rfl (by kernel_rfl)) ⟨S524.le, fun h => ⟨S524.arr 4 rfl, S524.arr 6 rfl⟩⟩ ?_
              refine EJ_take 5 rfl (by kernel_rfl) (by kernel_rfl) (by kernel_rfl) rfl (by kernel_rfl) (.agg ([.int .i64 a.kind, .int .i64 a.writer, .int .i64 a.seq, v14, v17, .int .i64 a.who, .int .i64 a.rights, .int .i64 a.epoch, v23]).toArray) rfl (fun _ hw ht => r_loadAll (by exact e278) ht.2 Try.underlying25 rfl (by kernel_rfl)) ⟨S524.le, fun h => ⟨S524.arr 4 rfl, S524.arr 6 rfl⟩⟩ ?_
              refine EJ_two 3 10 (by kernel_rfl) ⟨_, rfl, ?_⟩ ⟨_, rfl, ?_⟩
              · have S525 := S524.fr1
                refine EL_ret _ rfl Try.func17 rfl nm17 rfl (Key_c p518 ([] : List Thing) I503 _ _ S525 (by simp)) ?_
                rintro _ w526 ⟨v9o3_1, rfl, S527⟩
                have q529 : signOf 75 ((([] : List Thing).length : Int) + 1) = signOf 75 1 := rfl
                have S528 := S527.ab0 q529
                have q531 : ([] : List Thing) ++ [tKey] = [tKey] := rfl
                have S530 := Sat.ah1 (Suite p518) S528 q531
                refine EL_nil ?_
                refine ⟨rfl, ⟨S530.le, fun h => ⟨S530.arr 5 rfl, S530.arr 7 rfl⟩⟩, ?_⟩
                refine EJ_two 6 10 (by kernel_rfl) ⟨_, rfl, ?_⟩ ⟨_, rfl, ?_⟩
                · obtain ⟨I532, le533, S534, H535⟩ := S530.fb0
                  refine EL_ret _ rfl Try.func16 rfl nm16 rfl (RSeal_c p518 [tKey] v2 secret v9o3_1 (signOf 75 1) [.int .i64 r.coll, .int .i64 r.epoch, .int .i64 r.writer, .int .i64 r.count, v45] r [.int .i64 a.kind, .int .i64 a.writer, .int .i64 a.seq, v14, v17, .int .i64 a.who, .int .i64 a.rights, .int .i64 a.epoch, v23] a I532 _ _ S534 (Q0.up (Gh.le_trans (Gh.le_trans (Gh.le_trans (Gh.le_trans (Gh.le_trans (Gh.le_trans le72 le284) le490) le492) le502) le504) le533)) H535 ⟨v45, rfl, (by first | assumption | omega | (dsimp only; omega)), (by first | assumption | omega | (dsimp only; omega)), (by first | assumption | omega | (dsimp only; omega)), (by first | assumption | omega | (dsimp only; omega)), ⟨o46, (H47.up (Gh.le_trans (Gh.le_trans (Gh.le_trans (Gh.le_trans (Gh.le_trans (Gh.le_trans le72 le284) le490) le492) le502) le504) le533))⟩⟩ ⟨v14, v17, v23, rfl, (by first | assumption | omega | (dsimp only; omega)), (by first | assumption | omega | (dsimp only; omega)), (by first | assumption | omega | (dsimp only; omega)), ⟨o15, (H16.up (Gh.le_trans (Gh.le_trans (Gh.le_trans (Gh.le_trans (Gh.le_trans (Gh.le_trans le72 le284) le490) le492) le502) le504) le533))⟩, ⟨o18, (H19.up (Gh.le_trans (Gh.le_trans (Gh.le_trans (Gh.le_trans (Gh.le_trans (Gh.le_trans le72 le284) le490) le492) le502) le504) le533))⟩, (by first | assumption | omega | (dsimp only; omega)), (by first | assumption | omega | (dsimp only; omega)), (by first | assumption | omega | (dsimp only; omega)), ⟨o24, (H25.up (Gh.le_trans (Gh.le_trans (Gh.le_trans (Gh.le_trans (Gh.le_trans (Gh.le_trans le72 le284) le490) le492) le502) le504) le533))⟩⟩ (by simp) (by omega)) ?_
                  rintro _ w536 ⟨cs9o6_1, I538, le539, rfl, h9o6_2, S537⟩
                  obtain ⟨v9o6_7, rfl, r9o6_3, r9o6_4, r9o6_5, r9o6_6, ⟨o9o6_8, H540⟩⟩ := h9o6_2
                  refine EL_nil ?_
                  refine ⟨rfl, ⟨(Gh.le_trans (Gh.le_trans le533 le539) S537.le), fun h => ⟨S537.arr 4 rfl, S537.arr 6 rfl⟩⟩, ?_⟩
                  refine EJ_strong (fun w' => Gh.le I538 (gh w')) _ (fun w' hw => Gh.le_trans (Gh.le_trans le533 le539) hw) (fun w' _ ht => ht) ?_
                  refine EJ_take 7 rfl (by kernel_rfl) (by kernel_rfl) (by kernel_rfl) rfl (by kernel_rfl) (.tuple #[.agg ([.int .i64 ((sealRR [tKey] secret (signOf 75 1) r a).coll), .int .i64 ((sealRR [tKey] secret (signOf 75 1) r a).epoch), .int .i64 ((sealRR [tKey] secret (signOf 75 1) r a).writer), .int .i64 ((sealRR [tKey] secret (signOf 75 1) r a).count), v9o6_7]).toArray, .int .i64 (sealRE (signOf 75 1) r a)]) rfl (fun _ hw ht => r_move rfl) ⟨S537.le, fun h => ⟨S537.arr 4 rfl, S537.arr 6 rfl⟩⟩ ?_
                  refine EJ_take 8 rfl (by kernel_rfl) (by kernel_rfl) (by kernel_rfl) rfl (by kernel_rfl) (.agg ([.int .i64 ((sealRR [tKey] secret (signOf 75 1) r a).coll), .int .i64 ((sealRR [tKey] secret (signOf 75 1) r a).epoch), .int .i64 ((sealRR [tKey] secret (signOf 75 1) r a).writer), .int .i64 ((sealRR [tKey] secret (signOf 75 1) r a).count), v9o6_7]).toArray) rfl (fun _ hw ht => r_extract rfl rfl) ⟨S537.le, fun h => ⟨S537.arr 4 rfl, S537.arr 6 rfl⟩⟩ ?_
                  refine EJ_float 9 rfl (by kernel_rfl) (by kernel_rfl) (by kernel_rfl) rfl (.int .i64 (sealRE (signOf 75 1) r a)) rfl (fun _ hw => r_extract rfl rfl) ⟨S537.le, fun h => ⟨S537.arr 4 rfl, S537.arr 6 rfl⟩⟩ ?_
                  refine EJ_one 10 (by kernel_rfl) ⟨_, rfl, ?_⟩
                  refine EL_alloc (z := .agg #[.int .i64 0, .int .i64 0, .int .i64 0, .int .i64 0, .slice none 0 0]) [.int .i64 0, .int .i64 0, .int .i64 0, .int .i64 0, .slice none 0 0] rfl (by kernel_rfl) rfl ?_
                  intro b9o10_1 w541 k542 A543 B544 z545
                  have S546 := S537.newB B544 A543 k542
                  refine EL_nil ?_
                  refine ⟨rfl, ⟨S546.le, fun h => ⟨S546.arr 5 rfl, S546.arr 7 rfl⟩⟩, ?_⟩
                  refine EJ_one 11 (by kernel_rfl) ⟨_, rfl, ?_⟩
                  refine EL_storeAll (v := .agg ([.int .i64 ((sealRR [tKey] secret (signOf 75 1) r a).coll), .int .i64 ((sealRR [tKey] secret (signOf 75 1) r a).epoch), .int .i64 ((sealRR [tKey] secret (signOf 75 1) r a).writer), .int .i64 ((sealRR [tKey] secret (signOf 75 1) r a).count), v9o6_7]).toArray) (cs' := ([.int .i64 ((sealRR [tKey] secret (signOf 75 1) r a).coll), .int .i64 ((sealRR [tKey] secret (signOf 75 1) r a).epoch), .int .i64 ((sealRR [tKey] secret (signOf 75 1) r a).writer), .int .i64 ((sealRR [tKey] secret (signOf 75 1) r a).count), v9o6_7]).toArray) rfl rfl rfl (S546.arr 0 rfl) rfl (by kernel_rfl) (ones_cons rfl (ones_cons rfl (ones_cons rfl (ones_cons rfl (ones_cons o9o6_8 (fun _ h => nomatch h)))))) ?_
                  intro w547 A548 K549 z550
                  have S551 := S546.wr0 (ds := [.int .i64 ((sealRR [tKey] secret (signOf 75 1) r a).coll), .int .i64 ((sealRR [tKey] secret (signOf 75 1) r a).epoch), .int .i64 ((sealRR [tKey] secret (signOf 75 1) r a).writer), .int .i64 ((sealRR [tKey] secret (signOf 75 1) r a).count), v9o6_7]) K549 A548
                  refine EL_nil ?_
                  refine ⟨rfl, ⟨S551.le, fun h => by cases h⟩, ?_⟩
                  refine EJ_float 12 rfl (by kernel_rfl) (by kernel_rfl) (by kernel_rfl) rfl (.int .i64 (sealRE (signOf 75 1) r a)) rfl (fun _ hw => r_assign rfl) ⟨S551.le, fun h => by cases h⟩ ?_
                  refine EJ_done (by kernel_rfl) ?_
                  refine thn_n ?_
                  exact ⟨v9o3_1, v9o6_7, b9o10_1, I538, (by exact e277), (by exact e279), (by exact e280), (by exact e281), rfl, rfl, rfl, r9o6_3, r9o6_4, r9o6_5, r9o6_6, (Gh.le_trans le533 le539), (H535.up le539), H540, S551⟩
                · refine EL_alloc (z := .agg #[.int .i64 0, .int .i64 0, .int .i64 0, .int .i64 0, .slice none 0 0]) [.int .i64 0, .int .i64 0, .int .i64 0, .int .i64 0, .slice none 0 0] rfl (by kernel_rfl) rfl ?_
                  intro b9o10_1 w552 k553 A554 B555 z556
                  have S557 := S530.newB B555 A554 k553
                  refine EL_nil ?_
                  refine ⟨rfl, ⟨S557.le, fun h => ⟨S557.arr 6 rfl, S557.arr 8 rfl⟩⟩, ?_⟩
                  refine EJ_one 6 (by kernel_rfl) ⟨_, rfl, ?_⟩
                  obtain ⟨I558, le559, S560, H561⟩ := S557.fb1
                  have S562 := S560.fr1
                  refine EL_ret _ rfl Try.func16 rfl nm16 rfl (RSeal_c p518 [tKey] v2 secret v9o3_1 (signOf 75 1) [.int .i64 r.coll, .int .i64 r.epoch, .int .i64 r.writer, .int .i64 r.count, v45] r [.int .i64 a.kind, .int .i64 a.writer, .int .i64 a.seq, v14, v17, .int .i64 a.who, .int .i64 a.rights, .int .i64 a.epoch, v23] a I558 _ _ S562 (Q0.up (Gh.le_trans (Gh.le_trans (Gh.le_trans (Gh.le_trans (Gh.le_trans (Gh.le_trans le72 le284) le490) le492) le502) le504) le559)) H561 ⟨v45, rfl, (by first | assumption | omega | (dsimp only; omega)), (by first | assumption | omega | (dsimp only; omega)), (by first | assumption | omega | (dsimp only; omega)), (by first | assumption | omega | (dsimp only; omega)), ⟨o46, (H47.up (Gh.le_trans (Gh.le_trans (Gh.le_trans (Gh.le_trans (Gh.le_trans (Gh.le_trans le72 le284) le490) le492) le502) le504) le559))⟩⟩ ⟨v14, v17, v23, rfl, (by first | assumption | omega | (dsimp only; omega)), (by first | assumption | omega | (dsimp only; omega)), (by first | assumption | omega | (dsimp only; omega)), ⟨o15, (H16.up (Gh.le_trans (Gh.le_trans (Gh.le_trans (Gh.le_trans (Gh.le_trans (Gh.le_trans le72 le284) le490) le492) le502) le504) le559))⟩, ⟨o18, (H19.up (Gh.le_trans (Gh.le_trans (Gh.le_trans (Gh.le_trans (Gh.le_trans (Gh.le_trans le72 le284) le490) le492) le502) le504) le559))⟩, (by first | assumption | omega | (dsimp only; omega)), (by first | assumption | omega | (dsimp only; omega)), (by first | assumption | omega | (dsimp only; omega)), ⟨o24, (H25.up (Gh.le_trans (Gh.le_trans (Gh.le_trans (Gh.le_trans (Gh.le_trans (Gh.le_trans le72 le284) le490) le492) le502) le504) le559))⟩⟩ (by simp) (by omega)) ?_
                  rintro _ w563 ⟨cs9o6_1, I565, le566, rfl, h9o6_2, S564⟩
                  obtain ⟨v9o6_7, rfl, r9o6_3, r9o6_4, r9o6_5, r9o6_6, ⟨o9o6_8, H567⟩⟩ := h9o6_2
                  refine EL_nil ?_
                  refine ⟨rfl, ⟨(Gh.le_trans (Gh.le_trans le559 le566) S564.le), fun h => ⟨S564.arr 5 rfl, S564.arr 7 rfl⟩⟩, ?_⟩
                  refine EJ_strong (fun w' => Gh.le I565 (gh w')) _ (fun w' hw => Gh.le_trans (Gh.le_trans le559 le566) hw) (fun w' _ ht => ht) ?_
                  refine EJ_take 7 rfl (by kernel_rfl) (by kernel_rfl) (by kernel_rfl) rfl (by kernel_rfl) (.tuple #[.agg ([.int .i64 ((sealRR [tKey] secret (signOf 75 1) r a).coll), .int .i64 ((sealRR [tKey] secret (signOf 75 1) r a).epoch), .int .i64 ((sealRR [tKey] secret (signOf 75 1) r a).writer), .int .i64 ((sealRR [tKey] secret (signOf 75 1) r a).count), v9o6_7]).toArray, .int .i64 (sealRE (signOf 75 1) r a)]) rfl (fun _ hw ht => r_move rfl) ⟨S564.le, fun h => ⟨S564.arr 5 rfl, S564.arr 7 rfl⟩⟩ ?_
                  refine EJ_take 8 rfl (by kernel_rfl) (by kernel_rfl) (by kernel_rfl) rfl (by kernel_rfl) (.agg ([.int .i64 ((sealRR [tKey] secret (signOf 75 1) r a).coll), .int .i64 ((sealRR [tKey] secret (signOf 75 1) r a).epoch), .int .i64 ((sealRR [tKey] secret (signOf 75 1) r a).writer), .int .i64 ((sealRR [tKey] secret (signOf 75 1) r a).count), v9o6_7]).toArray) rfl (fun _ hw ht => r_extract rfl rfl) ⟨S564.le, fun h => ⟨S564.arr 5 rfl, S564.arr 7 rfl⟩⟩ ?_
                  refine EJ_float 9 rfl (by kernel_rfl) (by kernel_rfl) (by kernel_rfl) rfl (.int .i64 (sealRE (signOf 75 1) r a)) rfl (fun _ hw => r_extract rfl rfl) ⟨S564.le, fun h => ⟨S564.arr 5 rfl, S564.arr 7 rfl⟩⟩ ?_
                  refine EJ_one 11 (by kernel_rfl) ⟨_, rfl, ?_⟩
                  refine EL_storeAll (v := .agg ([.int .i64 ((sealRR [tKey] secret (signOf 75 1) r a).coll), .int .i64 ((sealRR [tKey] secret (signOf 75 1) r a).epoch), .int .i64 ((sealRR [tKey] secret (signOf 75 1) r a).writer), .int .i64 ((sealRR [tKey] secret (signOf 75 1) r a).count), v9o6_7]).toArray) (cs' := ([.int .i64 ((sealRR [tKey] secret (signOf 75 1) r a).coll), .int .i64 ((sealRR [tKey] secret (signOf 75 1) r a).epoch), .int .i64 ((sealRR [tKey] secret (signOf 75 1) r a).writer), .int .i64 ((sealRR [tKey] secret (signOf 75 1) r a).count), v9o6_7]).toArray) rfl rfl rfl (S564.arr 1 rfl) rfl (by kernel_rfl) (ones_cons rfl (ones_cons rfl (ones_cons rfl (ones_cons rfl (ones_cons o9o6_8 (fun _ h => nomatch h)))))) ?_
                  intro w568 A569 K570 z571
                  have S572 := S564.wr1 (ds := [.int .i64 ((sealRR [tKey] secret (signOf 75 1) r a).coll), .int .i64 ((sealRR [tKey] secret (signOf 75 1) r a).epoch), .int .i64 ((sealRR [tKey] secret (signOf 75 1) r a).writer), .int .i64 ((sealRR [tKey] secret (signOf 75 1) r a).count), v9o6_7]) K570 A569
                  refine EL_nil ?_
                  refine ⟨rfl, ⟨S572.le, fun h => by cases h⟩, ?_⟩
                  refine EJ_float 12 rfl (by kernel_rfl) (by kernel_rfl) (by kernel_rfl) rfl (.int .i64 (sealRE (signOf 75 1) r a)) rfl (fun _ hw => r_assign rfl) ⟨S572.le, fun h => by cases h⟩ ?_
                  refine EJ_done (by kernel_rfl) ?_
                  refine thn_n ?_
                  have S573 := S572.fr7
                  have S574 := S573.fr7
                  have S575 := S574.fr7
                  have S576 := S575.fr7
                  have S577 := S576.fr7
                  have S578 := S577.fr7
                  have S579 := S578.fr6
                  have S580 := S579.fr7
                  exact ⟨v9o3_1, v9o6_7, b9o10_1, I565, (by exact e277), (by exact e279), (by exact e280), (by exact e281), rfl, rfl, rfl, r9o6_3, r9o6_4, r9o6_5, r9o6_6, (Gh.le_trans le559 le566), (H561.up le566), H567, S580⟩
              · refine EL_alloc (z := .agg #[.int .i64 0, .int .i64 0, .int .i64 0, .int .i64 0, .slice none 0 0]) [.int .i64 0, .int .i64 0, .int .i64 0, .int .i64 0, .slice none 0 0] rfl (by kernel_rfl) rfl ?_
                intro b9o10_1 w581 k582 A583 B584 z585
                have S586 := S524.newB B584 A583 k582
                refine EL_nil ?_
                refine ⟨rfl, ⟨S586.le, fun h => ⟨S586.arr 5 rfl, S586.arr 7 rfl⟩⟩, ?_⟩
                refine EJ_one 3 (by kernel_rfl) ⟨_, rfl, ?_⟩
                have S587 := S586.fr2
                refine EL_ret _ rfl Try.func17 rfl nm17 rfl (Key_c p518 ([] : List Thing) I503 _ _ S587 (by simp)) ?_
                rintro _ w588 ⟨v9o3_1, rfl, S589⟩
                have q591 : signOf 75 ((([] : List Thing).length : Int) + 1) = signOf 75 1 := rfl
                have S590 := S589.ab0 q591
                have q593 : ([] : List Thing) ++ [tKey] = [tKey] := rfl
                have S592 := Sat.ah1 (Suite p518) S590 q593
                refine EL_nil ?_
                refine ⟨rfl, ⟨S592.le, fun h => ⟨S592.arr 6 rfl, S592.arr 8 rfl⟩⟩, ?_⟩
                refine EJ_one 6 (by kernel_rfl) ⟨_, rfl, ?_⟩
                obtain ⟨I594, le595, S596, H597⟩ := S592.fb0
                refine EL_ret _ rfl Try.func16 rfl nm16 rfl (RSeal_c p518 [tKey] v2 secret v9o3_1 (signOf 75 1) [.int .i64 r.coll, .int .i64 r.epoch, .int .i64 r.writer, .int .i64 r.count, v45] r [.int .i64 a.kind, .int .i64 a.writer, .int .i64 a.seq, v14, v17, .int .i64 a.who, .int .i64 a.rights, .int .i64 a.epoch, v23] a I594 _ _ S596 (Q0.up (Gh.le_trans (Gh.le_trans (Gh.le_trans (Gh.le_trans (Gh.le_trans (Gh.le_trans le72 le284) le490) le492) le502) le504) le595)) H597 ⟨v45, rfl, (by first | assumption | omega | (dsimp only; omega)), (by first | assumption | omega | (dsimp only; omega)), (by first | assumption | omega | (dsimp only; omega)), (by first | assumption | omega | (dsimp only; omega)), ⟨o46, (H47.up (Gh.le_trans (Gh.le_trans (Gh.le_trans (Gh.le_trans (Gh.le_trans (Gh.le_trans le72 le284) le490) le492) le502) le504) le595))⟩⟩ ⟨v14, v17, v23, rfl, (by first | assumption | omega | (dsimp only; omega)), (by first | assumption | omega | (dsimp only; omega)), (by first | assumption | omega | (dsimp only; omega)), ⟨o15, (H16.up (Gh.le_trans (Gh.le_trans (Gh.le_trans (Gh.le_trans (Gh.le_trans (Gh.le_trans le72 le284) le490) le492) le502) le504) le595))⟩, ⟨o18, (H19.up (Gh.le_trans (Gh.le_trans (Gh.le_trans (Gh.le_trans (Gh.le_trans (Gh.le_trans le72 le284) le490) le492) le502) le504) le595))⟩, (by first | assumption | omega | (dsimp only; omega)), (by first | assumption | omega | (dsimp only; omega)), (by first | assumption | omega | (dsimp only; omega)), ⟨o24, (H25.up (Gh.le_trans (Gh.le_trans (Gh.le_trans (Gh.le_trans (Gh.le_trans (Gh.le_trans le72 le284) le490) le492) le502) le504) le595))⟩⟩ (by simp) (by omega)) ?_
                rintro _ w598 ⟨cs9o6_1, I600, le601, rfl, h9o6_2, S599⟩
                obtain ⟨v9o6_7, rfl, r9o6_3, r9o6_4, r9o6_5, r9o6_6, ⟨o9o6_8, H602⟩⟩ := h9o6_2
                refine EL_nil ?_
                refine ⟨rfl, ⟨(Gh.le_trans (Gh.le_trans le595 le601) S599.le), fun h => ⟨S599.arr 5 rfl, S599.arr 7 rfl⟩⟩, ?_⟩
                refine EJ_strong (fun w' => Gh.le I600 (gh w')) _ (fun w' hw => Gh.le_trans (Gh.le_trans le595 le601) hw) (fun w' _ ht => ht) ?_
                refine EJ_take 7 rfl (by kernel_rfl) (by kernel_rfl) (by kernel_rfl) rfl (by kernel_rfl) (.tuple #[.agg ([.int .i64 ((sealRR [tKey] secret (signOf 75 1) r a).coll), .int .i64 ((sealRR [tKey] secret (signOf 75 1) r a).epoch), .int .i64 ((sealRR [tKey] secret (signOf 75 1) r a).writer), .int .i64 ((sealRR [tKey] secret (signOf 75 1) r a).count), v9o6_7]).toArray, .int .i64 (sealRE (signOf 75 1) r a)]) rfl (fun _ hw ht => r_move rfl) ⟨S599.le, fun h => ⟨S599.arr 5 rfl, S599.arr 7 rfl⟩⟩ ?_
                refine EJ_take 8 rfl (by kernel_rfl) (by kernel_rfl) (by kernel_rfl) rfl (by kernel_rfl) (.agg ([.int .i64 ((sealRR [tKey] secret (signOf 75 1) r a).coll), .int .i64 ((sealRR [tKey] secret (signOf 75 1) r a).epoch), .int .i64 ((sealRR [tKey] secret (signOf 75 1) r a).writer), .int .i64 ((sealRR [tKey] secret (signOf 75 1) r a).count), v9o6_7]).toArray) rfl (fun _ hw ht => r_extract rfl rfl) ⟨S599.le, fun h => ⟨S599.arr 5 rfl, S599.arr 7 rfl⟩⟩ ?_
                refine EJ_float 9 rfl (by kernel_rfl) (by kernel_rfl) (by kernel_rfl) rfl (.int .i64 (sealRE (signOf 75 1) r a)) rfl (fun _ hw => r_extract rfl rfl) ⟨S599.le, fun h => ⟨S599.arr 5 rfl, S599.arr 7 rfl⟩⟩ ?_
                refine EJ_one 11 (by kernel_rfl) ⟨_, rfl, ?_⟩
                refine EL_storeAll (v := .agg ([.int .i64 ((sealRR [tKey] secret (signOf 75 1) r a).coll), .int .i64 ((sealRR [tKey] secret (signOf 75 1) r a).epoch), .int .i64 ((sealRR [tKey] secret (signOf 75 1) r a).writer), .int .i64 ((sealRR [tKey] secret (signOf 75 1) r a).count), v9o6_7]).toArray) (cs' := ([.int .i64 ((sealRR [tKey] secret (signOf 75 1) r a).coll), .int .i64 ((sealRR [tKey] secret (signOf 75 1) r a).epoch), .int .i64 ((sealRR [tKey] secret (signOf 75 1) r a).writer), .int .i64 ((sealRR [tKey] secret (signOf 75 1) r a).count), v9o6_7]).toArray) rfl rfl rfl (S599.arr 1 rfl) rfl (by kernel_rfl) (ones_cons rfl (ones_cons rfl (ones_cons rfl (ones_cons rfl (ones_cons o9o6_8 (fun _ h => nomatch h)))))) ?_
                intro w603 A604 K605 z606
                have S607 := S599.wr1 (ds := [.int .i64 ((sealRR [tKey] secret (signOf 75 1) r a).coll), .int .i64 ((sealRR [tKey] secret (signOf 75 1) r a).epoch), .int .i64 ((sealRR [tKey] secret (signOf 75 1) r a).writer), .int .i64 ((sealRR [tKey] secret (signOf 75 1) r a).count), v9o6_7]) K605 A604
                refine EL_nil ?_
                refine ⟨rfl, ⟨S607.le, fun h => by cases h⟩, ?_⟩
                refine EJ_float 12 rfl (by kernel_rfl) (by kernel_rfl) (by kernel_rfl) rfl (.int .i64 (sealRE (signOf 75 1) r a)) rfl (fun _ hw => r_assign rfl) ⟨S607.le, fun h => by cases h⟩ ?_
                refine EJ_done (by kernel_rfl) ?_
                refine thn_n ?_
                have S608 := S607.fr7
                have S609 := S608.fr7
                have S610 := S609.fr7
                have S611 := S610.fr7
                have S612 := S611.fr7
                have S613 := S612.fr7
                have S614 := S613.fr6
                have S615 := S614.fr7
                exact ⟨v9o3_1, v9o6_7, b9o10_1, I600, (by exact e277), (by exact e279), (by exact e280), (by exact e281), rfl, rfl, rfl, r9o6_3, r9o6_4, r9o6_5, r9o6_6, (Gh.le_trans le595 le601), (H597.up le601), H602, S615⟩
            · rintro E616 w617 ⟨v9o3_1, v9o6_7, b9o10_1, I538, e618, e619, e620, e621, e622, e623, e624, r9o6_3, r9o6_4, r9o6_5, r9o6_6, le625, H626, H627, S628⟩
              refine EC_cut (fun E' w' => ∃ v10o3_1 : Value, ∃ v10o6_7 : Value, ∃ b10o10_1 : Nat, ∃ J : Gh, E' 8 = .bool false ∧ E' 13 = ptr b9o10_1 ∧ E' 14 = .int .i64 (sealRE (signOf 75 1) r a) ∧ E' 15 = ptr b10o10_1 ∧ E' 16 = .int .i64 (sealRE (signOf 75 1) r b) ∧ (-9223372036854775808 ≤ (sealRR [tKey] secret (signOf 75 1) r b).coll ∧ (sealRR [tKey] secret (signOf 75 1) r b).coll ≤ 9223372036854775807) ∧ (-9223372036854775808 ≤ (sealRR [tKey] secret (signOf 75 1) r b).epoch ∧ (sealRR [tKey] secret (signOf 75 1) r b).epoch ≤ 9223372036854775807) ∧ (-9223372036854775808 ≤ (sealRR [tKey] secret (signOf 75 1) r b).writer ∧ (sealRR [tKey] secret (signOf 75 1) r b).writer ≤ 9223372036854775807) ∧ (-9223372036854775808 ≤ (sealRR [tKey] secret (signOf 75 1) r b).count ∧ (sealRR [tKey] secret (signOf 75 1) r b).count ≤ 9223372036854775807) ∧ Gh.le I538 J ∧ RoB J v10o3_1 (signOf 75 1) ∧ RoB J v10o6_7 ((sealRR [tKey] secret (signOf 75 1) r b).box) ∧ Sat w' J (Blk b10o10_1 27 [.int .i64 ((sealRR [tKey] secret (signOf 75 1) r b).coll), .int .i64 ((sealRR [tKey] secret (signOf 75 1) r b).epoch), .int .i64 ((sealRR [tKey] secret (signOf 75 1) r b).writer), .int .i64 ((sealRR [tKey] secret (signOf 75 1) r b).count), v10o6_7] :: Suite p521 (sealRL [tKey] secret (signOf 75 1) r b) :: Blk b9o10_1 27 [.int .i64 ((sealRR [tKey] secret (signOf 75 1) r a).coll), .int .i64 ((sealRR [tKey] secret (signOf 75 1) r a).epoch), .int .i64 ((sealRR [tKey] secret (signOf 75 1) r a).writer), .int .i64 ((sealRR [tKey] secret (signOf 75 1) r a).count), v9o6_7] :: Suite p518 (sealRL [tKey] secret (signOf 75 1) r a) :: Blk b5o5_1 32 [.int .i64 b.kind, .int .i64 b.writer, .int .i64 b.seq, v5o3_6, v5o3_8, .int .i64 b.who, .int .i64 b.rights, .int .i64 b.epoch, v5o3_13] :: Blk b5o4_1 32 [.int .i64 a.kind, .int .i64 a.writer, .int .i64 a.seq, v5o1_6, v5o1_8, .int .i64 a.who, .int .i64 a.rights, .int .i64 a.epoch, v5o1_13] :: Blk b62 27 [.int .i64 r.coll, .int .i64 r.epoch, .int .i64 r.writer, .int .i64 r.count, v45] :: Blk b55 25 [.int .i64 b.kind, .int .i64 b.writer, .int .i64 b.seq, v29, v32, .int .i64 b.who, .int .i64 b.rights, .int .i64 b.epoch, v38] :: Blk b48 25 [.int .i64 a.kind, .int .i64 a.writer, .int .i64 a.seq, v14, v17, .int .i64 a.who, .int .i64 a.rights, .int .i64 a.epoch, v23] :: R)) ?_ ?_
              · refine EC_any 11 (fun w' => Gh.le I538 (gh w')) (fun w' => Arr w' b62 27 [.int .i64 r.coll, .int .i64 r.epoch, .int .i64 r.writer, .int .i64 r.count, v45] ∧ Arr w' b55 25 [.int .i64 b.kind, .int .i64 b.writer, .int .i64 b.seq, v29, v32, .int .i64 b.who, .int .i64 b.rights, .int .i64 b.epoch, v38]) (by kernel_rfl) ?_
                intro w629 B630
                have S631 := S628.below B630
                refine EJ_take 0 rfl (by kernel_rfl) (by kernel_rfl) (by kernel_rfl) rfl (by kernel_rfl) p521 rfl (fun _ hw ht => r_move (by exact e622)) ⟨S631.le, fun h => ⟨S631.arr 5 rfl, S631.arr 6 rfl⟩⟩ ?_
                refine EJ_take 1 rfl (by kernel_rfl) (by kernel_rfl) (by kernel_rfl) rfl (by kernel_rfl) v2 rfl (fun _ hw ht => r_move (by exact e618)) ⟨S631.le, fun h => ⟨S631.arr 5 rfl, S631.arr 6 rfl⟩⟩ ?_
                refine EJ_take 2 rfl (by kernel_rfl) (by kernel_rfl) (by kernel_rfl) rfl (by kernel_rfl) p521 rfl (fun _ hw ht => r_move (by exact e622)) ⟨S631.le, fun h => ⟨S631.arr 5 rfl, S631.arr 6 rfl⟩⟩ ?_
                refine EJ_take 4 rfl (by kernel_rfl) (by kernel_rfl) (by kernel_rfl) rfl (by kernel_rfl) (.agg ([.int .i64 r.coll, .int .i64 r.epoch, .int .i64 r.writer, .int .i64 r.count, v45]).toArray) rfl (fun _ hw ht => r_loadAll (by exact e620) ht.1 Try.underlying27 rfl (by kernel_rfl)) ⟨S631.le, fun h => ⟨S631.arr 5 rfl, S631.arr 6 rfl⟩⟩ ?_
                refine EJ_take 5 rfl (by kernel_rfl) (by kernel_rfl) (by kernel_rfl) rfl (by kernel_rfl) (.agg ([.int .i64 b.kind, .int .i64 b.writer, .int .i64 b.seq, v29, v32, .int .i64 b.who, .int .i64 b.rights, .int .i64 b.epoch, v38]).toArray) rfl (fun _ hw ht => r_loadAll (by exact e619) ht.2 Try.underlying25 rfl (by kernel_rfl)) ⟨S631.le, fun h => ⟨S631.arr 5 rfl, S631.arr 6 rfl⟩⟩ ?_
                refine EJ_two 3 10 (by kernel_rfl) ⟨_, rfl, ?_⟩ ⟨_, rfl, ?_⟩
                · have S632 := S631.fr2
                  refine EL_ret _ rfl Try.func17 rfl nm17 rfl (Key_c p521 ([] : List Thing) I538 _ _ S632 (by simp)) ?_
                  rintro _ w633 ⟨v10o3_1, rfl, S634⟩
                  have q636 : signOf 75 ((([] : List Thing).length : Int) + 1) = signOf 75 1 := rfl
                  have S635 := S634.ab0 q636
                  have q638 : ([] : List Thing) ++ [tKey] = [tKey] := rfl
                  have S637 := Sat.ah1 (Suite p521) S635 q638
                  refine EL_nil ?_
                  refine ⟨rfl, ⟨S637.le, fun h => ⟨S637.arr 6 rfl, S637.arr 7 rfl⟩⟩, ?_⟩
                  refine EJ_two 6 10 (by kernel_rfl) ⟨_, rfl, ?_⟩ ⟨_, rfl, ?_⟩
                  · obtain ⟨I639, le640, S641, H642⟩ := S637.fb0
                    refine EL_ret _ rfl Try.func16 rfl nm16 rfl (RSeal_c p521 [tKey] v2 secret v10o3_1 (signOf 75 1) [.int .i64 r.coll, .int .i64 r.epoch, .int .i64 r.writer, .int .i64 r.count, v45] r [.int .i64 b.kind, .int .i64 b.writer, .int .i64 b.seq, v29, v32, .int .i64 b.who, .int .i64 b.rights, .int .i64 b.epoch, v38] b I639 _ _ S641 (Q0.up (Gh.le_trans (Gh.le_trans (Gh.le_trans (Gh.le_trans (Gh.le_trans (Gh.le_trans (Gh.le_trans le72 le284) le490) le492) le502) le504) le625) le640)) H642 ⟨v45, rfl, (by first | assumption | omega | (dsimp only; omega)), (by first | assumption | omega | (dsimp only; omega)), (by first | assumption | omega | (dsimp only; omega)), (by first | assumption | omega | (dsimp only; omega)), ⟨o46, (H47.up (Gh.le_trans (Gh.le_trans (Gh.le_trans (Gh.le_trans (Gh.le_trans (Gh.le_trans (Gh.le_trans le72 le284) le490) le492) le502) le504) le625) le640))⟩⟩ ⟨v29, v32, v38, rfl, (by first | assumption | omega | (dsimp only; omega)), (by first | assumption | omega | (dsimp only; omega)), (by first | assumption | omega | (dsimp only; omega)), ⟨o30, (H31.up (Gh.le_trans (Gh.le_trans (Gh.le_trans (Gh.le_trans (Gh.le_trans (Gh.le_trans (Gh.le_trans le72 le284) le490) le492) le502) le504) le625) le640))⟩, ⟨o33, (H34.up (Gh.le_trans (Gh.le_trans (Gh.le_trans (Gh.le_trans (Gh.le_trans (Gh.le_trans (Gh.le_trans le72 le284) le490) le492) le502) le504) le625) le640))⟩, (by first | assumption | omega | (dsimp only; omega)), (by first | assumption | omega | (dsimp only; omega)), (by first | assumption | omega | (dsimp only; omega)), ⟨o39, (H40.up (Gh.le_trans (Gh.le_trans (Gh.le_trans (Gh.le_trans (Gh.le_trans (Gh.le_trans (Gh.le_trans le72 le284) le490) le492) le502) le504) le625) le640))⟩⟩ (by simp) (by omega)) ?_
                    rintro _ w643 ⟨cs10o6_1, I645, le646, rfl, h10o6_2, S644⟩
                    obtain ⟨v10o6_7, rfl, r10o6_3, r10o6_4, r10o6_5, r10o6_6, ⟨o10o6_8, H647⟩⟩ := h10o6_2
                    refine EL_nil ?_
                    refine ⟨rfl, ⟨(Gh.le_trans (Gh.le_trans le640 le646) S644.le), fun h => ⟨S644.arr 5 rfl, S644.arr 6 rfl⟩⟩, ?_⟩
                    refine EJ_strong (fun w' => Gh.le I645 (gh w')) _ (fun w' hw => Gh.le_trans (Gh.le_trans le640 le646) hw) (fun w' _ ht => ht) ?_
                    refine EJ_take 7 rfl (by kernel_rfl) (by kernel_rfl) (by kernel_rfl) rfl (by kernel_rfl) (.tuple #[.agg ([.int .i64 ((sealRR [tKey] secret (signOf 75 1) r b).coll), .int .i64 ((sealRR [tKey] secret (signOf 75 1) r b).epoch), .int .i64 ((sealRR [tKey] secret (signOf 75 1) r b).writer), .int .i64 ((sealRR [tKey] secret (signOf 75 1) r b).count), v10o6_7]).toArray, .int .i64 (sealRE (signOf 75 1) r b)]) rfl (fun _ hw ht => r_move rfl) ⟨S644.le, fun h => ⟨S644.arr 5 rfl, S644.arr 6 rfl⟩⟩ ?_
                    refine EJ_take 8 rfl (by kernel_rfl) (by kernel_rfl) (by kernel_rfl) rfl (by kernel_rfl) (.agg ([.int .i64 ((sealRR [tKey] secret (signOf 75 1) r b).coll), .int .i64 ((sealRR [tKey] secret (signOf 75 1) r b).epoch), .int .i64 ((sealRR [tKey] secret (signOf 75 1) r b).writer), .int .i64 ((sealRR [tKey] secret (signOf 75 1) r b).count), v10o6_7]).toArray) rfl (fun _ hw ht => r_extract rfl rfl) ⟨S644.le, fun h => ⟨S644.arr 5 rfl, S644.arr 6 rfl⟩⟩ ?_
                    refine EJ_float 9 rfl (by kernel_rfl) (by kernel_rfl) (by kernel_rfl) rfl (.int .i64 (sealRE (signOf 75 1) r b)) rfl (fun _ hw => r_extract rfl rfl) ⟨S644.le, fun h => ⟨S644.arr 5 rfl, S644.arr 6 rfl⟩⟩ ?_
                    refine EJ_one 10 (by kernel_rfl) ⟨_, rfl, ?_⟩
                    refine EL_alloc (z := .agg #[.int .i64 0, .int .i64 0, .int .i64 0, .int .i64 0, .slice none 0 0]) [.int .i64 0, .int .i64 0, .int .i64 0, .int .i64 0, .slice none 0 0] rfl (by kernel_rfl) rfl ?_
                    intro b10o10_1 w648 k649 A650 B651 z652
                    have S653 := S644.newB B651 A650 k649
                    refine EL_nil ?_
                    refine ⟨rfl, ⟨S653.le, fun h => ⟨S653.arr 6 rfl, S653.arr 7 rfl⟩⟩, ?_⟩
                    refine EJ_one 11 (by kernel_rfl) ⟨_, rfl, ?_⟩
                    refine EL_storeAll (v := .agg ([.int .i64 ((sealRR [tKey] secret (signOf 75 1) r b).coll), .int .i64 ((sealRR [tKey] secret (signOf 75 1) r b).epoch), .int .i64 ((sealRR [tKey] secret (signOf 75 1) r b).writer), .int .i64 ((sealRR [tKey] secret (signOf 75 1) r b).count), v10o6_7]).toArray) (cs' := ([.int .i64 ((sealRR [tKey] secret (signOf 75 1) r b).coll), .int .i64 ((sealRR [tKey] secret (signOf 75 1) r b).epoch), .int .i64 ((sealRR [tKey] secret (signOf 75 1) r b).writer), .int .i64 ((sealRR [tKey] secret (signOf 75 1) r b).count), v10o6_7]).toArray) rfl rfl rfl (S653.arr 0 rfl) rfl (by kernel_rfl) (ones_cons rfl (ones_cons rfl (ones_cons rfl (ones_cons rfl (ones_cons o10o6_8 (fun _ h => nomatch h)))))) ?_
                    intro w654 A655 K656 z657
                    have S658 := S653.wr0 (ds := [.int .i64 ((sealRR [tKey] secret (signOf 75 1) r b).coll), .int .i64 ((sealRR [tKey] secret (signOf 75 1) r b).epoch), .int .i64 ((sealRR [tKey] secret (signOf 75 1) r b).writer), .int .i64 ((sealRR [tKey] secret (signOf 75 1) r b).count), v10o6_7]) K656 A655
                    refine EL_nil ?_
                    refine ⟨rfl, ⟨S658.le, fun h => by cases h⟩, ?_⟩
                    refine EJ_float 12 rfl (by kernel_rfl) (by kernel_rfl) (by kernel_rfl) rfl (.int .i64 (sealRE (signOf 75 1) r b)) rfl (fun _ hw => r_assign rfl) ⟨S658.le, fun h => by cases h⟩ ?_
                    refine EJ_done (by kernel_rfl) ?_
                    refine thn_n ?_
                    exact ⟨v10o3_1, v10o6_7, b10o10_1, I645, (by exact e621), (by exact e623), (by exact e624), rfl, rfl, r10o6_3, r10o6_4, r10o6_5, r10o6_6, (Gh.le_trans le640 le646), (H642.up le646), H647, S658⟩
                  · refine EL_alloc (z := .agg #[.int .i64 0, .int .i64 0, .int .i64 0, .int .i64 0, .slice none 0 0]) [.int .i64 0, .int .i64 0, .int .i64 0, .int .i64 0, .slice none 0 0] rfl (by kernel_rfl) rfl ?_
                    intro b10o10_1 w659 k660 A661 B662 z663
                    have S664 := S637.newB B662 A661 k660
                    refine EL_nil ?_
                    refine ⟨rfl, ⟨S664.le, fun h => ⟨S664.arr 7 rfl, S664.arr 8 rfl⟩⟩, ?_⟩
                    refine EJ_one 6 (by kernel_rfl) ⟨_, rfl, ?_⟩
                    obtain ⟨I665, le666, S667, H668⟩ := S664.fb1
                    have S669 := S667.fr1
                    refine EL_ret _ rfl Try.func16 rfl nm16 rfl (RSeal_c p521 [tKey] v2 secret v10o3_1 (signOf 75 1) [.int .i64 r.coll, .int .i64 r.epoch, .int .i64 r.writer, .int .i64 r.count, v45] r [.int .i64 b.kind, .int .i64 b.writer, .int .i64 b.seq, v29, v32, .int .i64 b.who, .int .i64 b.rights, .int .i64 b.epoch, v38] b I665 _ _ S669 (Q0.up (Gh.le_trans (Gh.le_trans (Gh.le_trans (Gh.le_trans (Gh.le_trans (Gh.le_trans (Gh.le_trans le72 le284) le490) le492) le502) le504) le625) le666)) H668 ⟨v45, rfl, (by first | assumption | omega | (dsimp only; omega)), (by first | assumption | omega | (dsimp only; omega)), (by first | assumption | omega | (dsimp only; omega)), (by first | assumption | omega | (dsimp only; omega)), ⟨o46, (H47.up (Gh.le_trans (Gh.le_trans (Gh.le_trans (Gh.le_trans (Gh.le_trans (Gh.le_trans (Gh.le_trans le72 le284) le490) le492) le502) le504) le625) le666))⟩⟩ ⟨v29, v32, v38, rfl, (by first | assumption | omega | (dsimp only; omega)), (by first | assumption | omega | (dsimp only; omega)), (by first | assumption | omega | (dsimp only; omega)), ⟨o30, (H31.up (Gh.le_trans (Gh.le_trans (Gh.le_trans (Gh.le_trans (Gh.le_trans (Gh.le_trans (Gh.le_trans le72 le284) le490) le492) le502) le504) le625) le666))⟩, ⟨o33, (H34.up (Gh.le_trans (Gh.le_trans (Gh.le_trans (Gh.le_trans (Gh.le_trans (Gh.le_trans (Gh.le_trans le72 le284) le490) le492) le502) le504) le625) le666))⟩, (by first | assumption | omega | (dsimp only; omega)), (by first | assumption | omega | (dsimp only; omega)), (by first | assumption | omega | (dsimp only; omega)), ⟨o39, (H40.up (Gh.le_trans (Gh.le_trans (Gh.le_trans (Gh.le_trans (Gh.le_trans (Gh.le_trans (Gh.le_trans le72 le284) le490) le492) le502) le504) le625) le666))⟩⟩ (by simp) (by omega)) ?_
                    rintro _ w670 ⟨cs10o6_1, I672, le673, rfl, h10o6_2, S671⟩
                    obtain ⟨v10o6_7, rfl, r10o6_3, r10o6_4, r10o6_5, r10o6_6, ⟨o10o6_8, H674⟩⟩ := h10o6_2
                    refine EL_nil ?_
                    refine ⟨rfl, ⟨(Gh.le_trans (Gh.le_trans le666 le673) S671.le), fun h => ⟨S671.arr 6 rfl, S671.arr 7 rfl⟩⟩, ?_⟩
                    refine EJ_strong (fun w' => Gh.le I672 (gh w')) _ (fun w' hw => Gh.le_trans (Gh.le_trans le666 le673) hw) (fun w' _ ht => ht) ?_
                    refine EJ_take 7 rfl (by kernel_rfl) (by kernel_rfl) (by kernel_rfl) rfl (by kernel_rfl) (.tuple #[.agg ([.int .i64 ((sealRR [tKey] secret (signOf 75 1) r b).coll), .int .i64 ((sealRR [tKey] secret (signOf 75 1) r b).epoch), .int .i64 ((sealRR [tKey] secret (signOf 75 1) r b).writer), .int .i64 ((sealRR [tKey] secret (signOf 75 1) r b).count), v10o6_7]).toArray, .int .i64 (sealRE (signOf 75 1) r b)]) rfl (fun _ hw ht => r_move rfl) ⟨S671.le, fun h => ⟨S671.arr 6 rfl, S671.arr 7 rfl⟩⟩ ?_
                    refine EJ_take 8 rfl (by kernel_rfl) (by kernel_rfl) (by kernel_rfl) rfl (by kernel_rfl) (.agg ([.int .i64 ((sealRR [tKey] secret (signOf 75 1) r b).coll), .int .i64 ((sealRR [tKey] secret (signOf 75 1) r b).epoch), .int .i64 ((sealRR [tKey] secret (signOf 75 1) r b).writer), .int .i64 ((sealRR [tKey] secret (signOf 75 1) r b).count), v10o6_7]).toArray) rfl (fun _ hw ht => r_extract rfl rfl) ⟨S671.le, fun h => ⟨S671.arr 6 rfl, S671.arr 7 rfl⟩⟩ ?_
                    refine EJ_float 9 rfl (by kernel_rfl) (by kernel_rfl) (by kernel_rfl) rfl (.int .i64 (sealRE (signOf 75 1) r b)) rfl (fun _ hw => r_extract rfl rfl) ⟨S671.le, fun h => ⟨S671.arr 6 rfl, S671.arr 7 rfl⟩⟩ ?_
                    refine EJ_one 11 (by kernel_rfl) ⟨_, rfl, ?_⟩
                    refine EL_storeAll (v := .agg ([.int .i64 ((sealRR [tKey] secret (signOf 75 1) r b).coll), .int .i64 ((sealRR [tKey] secret (signOf 75 1) r b).epoch), .int .i64 ((sealRR [tKey] secret (signOf 75 1) r b).writer), .int .i64 ((sealRR [tKey] secret (signOf 75 1) r b).count), v10o6_7]).toArray) (cs' := ([.int .i64 ((sealRR [tKey] secret (signOf 75 1) r b).coll), .int .i64 ((sealRR [tKey] secret (signOf 75 1) r b).epoch), .int .i64 ((sealRR [tKey] secret (signOf 75 1) r b).writer), .int .i64 ((sealRR [tKey] secret (signOf 75 1) r b).count), v10o6_7]).toArray) rfl rfl rfl (S671.arr 1 rfl) rfl (by kernel_rfl) (ones_cons rfl (ones_cons rfl (ones_cons rfl (ones_cons rfl (ones_cons o10o6_8 (fun _ h => nomatch h)))))) ?_
                    intro w675 A676 K677 z678
                    have S679 := S671.wr1 (ds := [.int .i64 ((sealRR [tKey] secret (signOf 75 1) r b).coll), .int .i64 ((sealRR [tKey] secret (signOf 75 1) r b).epoch), .int .i64 ((sealRR [tKey] secret (signOf 75 1) r b).writer), .int .i64 ((sealRR [tKey] secret (signOf 75 1) r b).count), v10o6_7]) K677 A676
                    refine EL_nil ?_
                    refine ⟨rfl, ⟨S679.le, fun h => by cases h⟩, ?_⟩
                    refine EJ_float 12 rfl (by kernel_rfl) (by kernel_rfl) (by kernel_rfl) rfl (.int .i64 (sealRE (signOf 75 1) r b)) rfl (fun _ hw => r_assign rfl) ⟨S679.le, fun h => by cases h⟩ ?_
                    refine EJ_done (by kernel_rfl) ?_
                    refine thn_n ?_
                    have S680 := S679.fr8
                    have S681 := S680.fr8
                    have S682 := S681.fr8
                    have S683 := S682.fr8
                    have S684 := S683.fr8
                    have S685 := S684.fr8
                    have S686 := S685.fr8
                    have S687 := S686.fr7
                    have S688 := S687.fr8
                    exact ⟨v10o3_1, v10o6_7, b10o10_1, I672, (by exact e621), (by exact e623), (by exact e624), rfl, rfl, r10o6_3, r10o6_4, r10o6_5, r10o6_6, (Gh.le_trans le666 le673), (H668.up le673), H674, S688⟩
                · refine EL_alloc (z := .agg #[.int .i64 0, .int .i64 0, .int .i64 0, .int .i64 0, .slice none 0 0]) [.int .i64 0, .int .i64 0, .int .i64 0, .int .i64 0, .slice none 0 0] rfl (by kernel_rfl) rfl ?_
                  intro b10o10_1 w689 k690 A691 B692 z693
                  have S694 := S631.newB B692 A691 k690
                  refine EL_nil ?_
                  refine ⟨rfl, ⟨S694.le, fun h => ⟨S694.arr 6 rfl, S694.arr 7 rfl⟩⟩, ?_⟩
                  refine EJ_one 3 (by kernel_rfl) ⟨_, rfl, ?_⟩
                  have S695 := S694.fr3
                  refine EL_ret _ rfl Try.func17 rfl nm17 rfl (Key_c p521 ([] : List Thing) I538 _ _ S695 (by simp)) ?_
                  rintro _ w696 ⟨v10o3_1, rfl, S697⟩
                  have q699 : signOf 75 ((([] : List Thing).length : Int) + 1) = signOf 75 1 := rfl
                  have S698 := S697.ab0 q699
                  have q701 : ([] : List Thing) ++ [tKey] = [tKey] := rfl
                  have S700 := Sat.ah1 (Suite p521) S698 q701
                  refine EL_nil ?_
                  refine ⟨rfl, ⟨S700.le, fun h => ⟨S700.arr 7 rfl, S700.arr 8 rfl⟩⟩, ?_⟩
                  refine EJ_one 6 (by kernel_rfl) ⟨_, rfl, ?_⟩
                  obtain ⟨I702, le703, S704, H705⟩ := S700.fb0
                  refine EL_ret _ rfl Try.func16 rfl nm16 rfl (RSeal_c p521 [tKey] v2 secret v10o3_1 (signOf 75 1) [.int .i64 r.coll, .int .i64 r.epoch, .int .i64 r.writer, .int .i64 r.count, v45] r [.int .i64 b.kind, .int .i64 b.writer, .int .i64 b.seq, v29, v32, .int .i64 b.who, .int .i64 b.rights, .int .i64 b.epoch, v38] b I702 _ _ S704 (Q0.up (Gh.le_trans (Gh.le_trans (Gh.le_trans (Gh.le_trans (Gh.le_trans (Gh.le_trans (Gh.le_trans le72 le284) le490) le492) le502) le504) le625) le703)) H705 ⟨v45, rfl, (by first | assumption | omega | (dsimp only; omega)), (by first | assumption | omega | (dsimp only; omega)), (by first | assumption | omega | (dsimp only; omega)), (by first | assumption | omega | (dsimp only; omega)), ⟨o46, (H47.up (Gh.le_trans (Gh.le_trans (Gh.le_trans (Gh.le_trans (Gh.le_trans (Gh.le_trans (Gh.le_trans le72 le284) le490) le492) le502) le504) le625) le703))⟩⟩ ⟨v29, v32, v38, rfl, (by first | assumption | omega | (dsimp only; omega)), (by first | assumption | omega | (dsimp only; omega)), (by first | assumption | omega | (dsimp only; omega)), ⟨o30, (H31.up (Gh.le_trans (Gh.le_trans (Gh.le_trans (Gh.le_trans (Gh.le_trans (Gh.le_trans (Gh.le_trans le72 le284) le490) le492) le502) le504) le625) le703))⟩, ⟨o33, (H34.up (Gh.le_trans (Gh.le_trans (Gh.le_trans (Gh.le_trans (Gh.le_trans (Gh.le_trans (Gh.le_trans le72 le284) le490) le492) le502) le504) le625) le703))⟩, (by first | assumption | omega | (dsimp only; omega)), (by first | assumption | omega | (dsimp only; omega)), (by first | assumption | omega | (dsimp only; omega)), ⟨o39, (H40.up (Gh.le_trans (Gh.le_trans (Gh.le_trans (Gh.le_trans (Gh.le_trans (Gh.le_trans (Gh.le_trans le72 le284) le490) le492) le502) le504) le625) le703))⟩⟩ (by simp) (by omega)) ?_
                  rintro _ w706 ⟨cs10o6_1, I708, le709, rfl, h10o6_2, S707⟩
                  obtain ⟨v10o6_7, rfl, r10o6_3, r10o6_4, r10o6_5, r10o6_6, ⟨o10o6_8, H710⟩⟩ := h10o6_2
                  refine EL_nil ?_
                  refine ⟨rfl, ⟨(Gh.le_trans (Gh.le_trans le703 le709) S707.le), fun h => ⟨S707.arr 6 rfl, S707.arr 7 rfl⟩⟩, ?_⟩
                  refine EJ_strong (fun w' => Gh.le I708 (gh w')) _ (fun w' hw => Gh.le_trans (Gh.le_trans le703 le709) hw) (fun w' _ ht => ht) ?_
                  refine EJ_take 7 rfl (by kernel_rfl) (by kernel_rfl) (by kernel_rfl) rfl (by kernel_rfl) (.tuple #[.agg ([.int .i64 ((sealRR [tKey] secret (signOf 75 1) r b).coll), .int .i64 ((sealRR [tKey] secret (signOf 75 1) r b).epoch), .int .i64 ((sealRR [tKey] secret (signOf 75 1) r b).writer), .int .i64 ((sealRR [tKey] secret (signOf 75 1) r b).count), v10o6_7]).toArray, .int .i64 (sealRE (signOf 75 1) r b)]) rfl (fun _ hw ht => r_move rfl) ⟨S707.le, fun h => ⟨S707.arr 6 rfl, S707.arr 7 rfl⟩⟩ ?_
                  refine EJ_take 8 rfl (by kernel_rfl) (by kernel_rfl) (by kernel_rfl) rfl (by kernel_rfl) (.agg ([.int .i64 ((sealRR [tKey] secret (signOf 75 1) r b).coll), .int .i64 ((sealRR [tKey] secret (signOf 75 1) r b).epoch), .int .i64 ((sealRR [tKey] secret (signOf 75 1) r b).writer), .int .i64 ((sealRR [tKey] secret (signOf 75 1) r b).count), v10o6_7]).toArray) rfl (fun _ hw ht => r_extract rfl rfl) ⟨S707.le, fun h => ⟨S707.arr 6 rfl, S707.arr 7 rfl⟩⟩ ?_
                  refine EJ_float 9 rfl (by kernel_rfl) (by kernel_rfl) (by kernel_rfl) rfl (.int .i64 (sealRE (signOf 75 1) r b)) rfl (fun _ hw => r_extract rfl rfl) ⟨S707.le, fun h => ⟨S707.arr 6 rfl, S707.arr 7 rfl⟩⟩ ?_
                  refine EJ_one 11 (by kernel_rfl) ⟨_, rfl, ?_⟩
                  refine EL_storeAll (v := .agg ([.int .i64 ((sealRR [tKey] secret (signOf 75 1) r b).coll), .int .i64 ((sealRR [tKey] secret (signOf 75 1) r b).epoch), .int .i64 ((sealRR [tKey] secret (signOf 75 1) r b).writer), .int .i64 ((sealRR [tKey] secret (signOf 75 1) r b).count), v10o6_7]).toArray) (cs' := ([.int .i64 ((sealRR [tKey] secret (signOf 75 1) r b).coll), .int .i64 ((sealRR [tKey] secret (signOf 75 1) r b).epoch), .int .i64 ((sealRR [tKey] secret (signOf 75 1) r b).writer), .int .i64 ((sealRR [tKey] secret (signOf 75 1) r b).count), v10o6_7]).toArray) rfl rfl rfl (S707.arr 1 rfl) rfl (by kernel_rfl) (ones_cons rfl (ones_cons rfl (ones_cons rfl (ones_cons rfl (ones_cons o10o6_8 (fun _ h => nomatch h)))))) ?_
                  intro w711 A712 K713 z714
                  have S715 := S707.wr1 (ds := [.int .i64 ((sealRR [tKey] secret (signOf 75 1) r b).coll), .int .i64 ((sealRR [tKey] secret (signOf 75 1) r b).epoch), .int .i64 ((sealRR [tKey] secret (signOf 75 1) r b).writer), .int .i64 ((sealRR [tKey] secret (signOf 75 1) r b).count), v10o6_7]) K713 A712
                  refine EL_nil ?_
                  refine ⟨rfl, ⟨S715.le, fun h => by cases h⟩, ?_⟩
                  refine EJ_float 12 rfl (by kernel_rfl) (by kernel_rfl) (by kernel_rfl) rfl (.int .i64 (sealRE (signOf 75 1) r b)) rfl (fun _ hw => r_assign rfl) ⟨S715.le, fun h => by cases h⟩ ?_
                  refine EJ_done (by kernel_rfl) ?_
                  refine thn_n ?_
                  have S716 := S715.fr8
                  have S717 := S716.fr8
                  have S718 := S717.fr8
                  have S719 := S718.fr8
                  have S720 := S719.fr8
                  have S721 := S720.fr8
                  have S722 := S721.fr8
                  have S723 := S722.fr7
                  have S724 := S723.fr8
                  exact ⟨v10o3_1, v10o6_7, b10o10_1, I708, (by exact e621), (by exact e623), (by exact e624), rfl, rfl, r10o6_3, r10o6_4, r10o6_5, r10o6_6, (Gh.le_trans le703 le709), (H705.up le709), H710, S724⟩
              · rintro E725 w726 ⟨v10o3_1, v10o6_7, b10o10_1, I645, e727, e728, e729, e730, e731, r10o6_3, r10o6_4, r10o6_5, r10o6_6, le732, H733, H734, S735⟩
                refine EC_seq ?_
                refine EC_reg ?_
                refine EL_val (.int .i64 (sealRE (signOf 75 1) r a)) w726 rfl (r_move (by exact e729)) ?_
                refine EL_val (.int .i64 (sealRE (signOf 75 1) r b)) w726 rfl (r_move (by exact e731)) ?_
                refine EL_val (.bool true) w726 rfl (r_dec (show (decide ((sealRE (signOf 75 1) r a) = (sealRE (signOf 75 1) r b))) = true from decide_eq_true hh.1) (r_eql rfl rfl)) ?_
                refine EL_val (.bool true) w726 rfl (r_move rfl) ?_
                refine EL_gval 89 rfl rfl rfl rfl (.agg ([.int .i64 ((sealRR [tKey] secret (signOf 75 1) r a).coll), .int .i64 ((sealRR [tKey] secret (signOf 75 1) r a).epoch), .int .i64 ((sealRR [tKey] secret (signOf 75 1) r a).writer), .int .i64 ((sealRR [tKey] secret (signOf 75 1) r a).count), v9o6_7]).toArray) w726 rfl (r_loadAll (by exact e728) (S735.arr 2 rfl) Try.underlying27 rfl (by kernel_rfl)) ?_
                refine EL_gval 89 rfl rfl rfl rfl (.agg ([.int .i64 ((sealRR [tKey] secret (signOf 75 1) r b).coll), .int .i64 ((sealRR [tKey] secret (signOf 75 1) r b).epoch), .int .i64 ((sealRR [tKey] secret (signOf 75 1) r b).writer), .int .i64 ((sealRR [tKey] secret (signOf 75 1) r b).count), v10o6_7]).toArray) w726 rfl (r_loadAll (by exact e730) (S735.arr 0 rfl) Try.underlying27 rfl (by kernel_rfl)) ?_
                refine EL_gret 89 rfl rfl rfl rfl _ rfl Try.func18 rfl nm18 rfl (Same15_c [.int .i64 ((sealRR [tKey] secret (signOf 75 1) r a).coll), .int .i64 ((sealRR [tKey] secret (signOf 75 1) r a).epoch), .int .i64 ((sealRR [tKey] secret (signOf 75 1) r a).writer), .int .i64 ((sealRR [tKey] secret (signOf 75 1) r a).count), v9o6_7] [.int .i64 ((sealRR [tKey] secret (signOf 75 1) r b).coll), .int .i64 ((sealRR [tKey] secret (signOf 75 1) r b).epoch), .int .i64 ((sealRR [tKey] secret (signOf 75 1) r b).writer), .int .i64 ((sealRR [tKey] secret (signOf 75 1) r b).count), v10o6_7] (sealRR [tKey] secret (signOf 75 1) r a) (sealRR [tKey] secret (signOf 75 1) r b) I645 _ _ S735 ⟨v9o6_7, rfl, (by first | assumption | omega | (dsimp only; omega)), (by first | assumption | omega | (dsimp only; omega)), (by first | assumption | omega | (dsimp only; omega)), (by first | assumption | omega | (dsimp only; omega)), ⟨(row_one (H627 _ (Gh.le_trans le732 S735.le))), (H627.up le732)⟩⟩ ⟨v10o6_7, rfl, (by first | assumption | omega | (dsimp only; omega)), (by first | assumption | omega | (dsimp only; omega)), (by first | assumption | omega | (dsimp only; omega)), (by first | assumption | omega | (dsimp only; omega)), ⟨(row_one (H734 _ S735.le)), H734⟩⟩) ?_
                rintro _ w736 ⟨rfl, S737⟩
                refine EL_val (.bool true) w736 rfl (r_pickT rfl (Eq.trans (show _ = Value.bool (decide ((sealRR [tKey] secret (signOf 75 1) r a) = (sealRR [tKey] secret (signOf 75 1) r b))) from rfl) (congrArg Value.bool (show (decide ((sealRR [tKey] secret (signOf 75 1) r a) = (sealRR [tKey] secret (signOf 75 1) r b))) = true from decide_eq_true hh.2)))) ?_
                refine EL_val (.bool true) w736 rfl (r_assign rfl) ?_
                refine EL_nil ?_
                refine thn_n ?_
                refine EC_ret ?_
                refine fin1 Try.results3 (show _ = .bool true from rfl) ⟨_, rfl, ?_⟩
                have S738 := S737.dr0
                have S739 := S738.dr0
                have S740 := S739.dr0
                have S741 := S740.dr0
                have S742 := S741.dr0
                have S743 := S742.dr0
                have S744 := S743.dr0
                have S745 := S744.dr0
                have S746 := S745.dr0
                exact ⟨I645, (Gh.le_trans (Gh.le_trans (Gh.le_trans (Gh.le_trans (Gh.le_trans (Gh.le_trans (Gh.le_trans le72 le284) le490) le492) le502) le504) le625) le732), rfl, S746⟩
theorem SealedHides_c (c0 : List Value) (a : Entry) (c1 : List Value) (b : Entry) (v2 : Value) (secret : List UInt8) (c3 : List Value) (r : Record) (w : World) (H0 : entR.r (gh w) c0 a) (H1 : entR.r (gh w) c1 b) (H2 : Bs w v2 secret) (H3 : recR.r (gh w) c3 r) : Ret Try.prog 3 [.agg c0.toArray, .agg c1.toArray, v2, .agg c3.toArray] w fun v w' => v = .bool true ∧ Below w.heap.size w w' :=
  (SealedHides_w c0 a c1 b v2 secret c3 r (gh w) [] w (Sat.start w) (Row.ro H2) H0 H1 H3).mono fun v w' h => by obtain ⟨J, le, e, S⟩ := h; exact ⟨e.symm, S.fin le⟩
theorem own : ownKnob Try.prog.godebug = none := by kernel_rfl
theorem laidOut : laidOutB Try.prog = true := by kernel_rfl
set_option maxRecDepth 100000 in
theorem lifted (os : Os) (started : os.Started) (H : Type) (enc : TypeId × Value → H) :
    ReturnsInHanded {} Try.checked os 3 .any (Rows.sealedHidesSpec.pre6 enc Try.prog Try.f3 Rows.sealedHidesRow.domain false) (Rows.sealedHidesSpec.post enc Try.prog Try.f3 false true false false) := by
  refine returnsInHanded_of_change (C := Try.checked) own started (by kernel_rfl) Try.func3
    (ChangeSpec.witness6 (enc := enc) (C := Try.checked) false ⟨#[], #[.agg #[.int .i64 0, .int .i64 0, .int .i64 0, .slice none 0 0, .slice none 0 0, .int .i64 0, .int .i64 0, .int .i64 0, .slice none 0 0], .agg #[.int .i64 0, .int .i64 0, .int .i64 0, .slice none 0 0, .slice none 0 0, .int .i64 0, .int .i64 0, .int .i64 0, .slice none 0 0], .slice none 0 0, .agg #[.int .i64 0, .int .i64 0, .int .i64 0, .int .i64 0, .slice none 0 0]], []⟩ 8 (by kernel_rfl) (by kernel_rfl) (by kernel_rfl) (by kernel_rfl)) ?_
  intro W base args ds gs before hval0 hW hcnd _
  have hval : ∀ (j : Nat) t v, Try.f3.params[j]? = some t → args[j]? = some v → Value.okWide Try.prog W .any base t v := hval0
  have hW' := hW
  obtain ⟨p, q, hA0, hV, rfl, hfz, hnd⟩ := hW
  have hA : DataW.TrodAll enc Try.prog W 0 (fun _ => true) true Try.f3.params.toList args.toList ds p := hA0
  rw [Try.params3] at hA hval
  obtain ⟨v0, vs0, d0, ds0, p0, q0, hargs, rfl, rfl, h0, r0⟩ := trodAll_cons hA
  obtain ⟨v1, vs1, d1, ds1, p1, q1, rfl, rfl, rfl, h1, r1⟩ := trodAll_cons r0
  obtain ⟨v2, vs2, d2, ds2, p2, q2, rfl, rfl, rfl, h2, r2⟩ := trodAll_cons r1
  obtain ⟨v3, vs3, d3, ds3, p3, q3, rfl, rfl, rfl, h3, r3⟩ := trodAll_cons r2
  obtain ⟨rfl, rfl, rfl⟩ := trodAll_nil r3
  obtain rfl : args = #[v0, v1, v2, v3] := by cases args; simp_all
  obtain ⟨rfl, rfl⟩ := trodVars_none hV
  have k0 := h0
  have lt0 : ∀ x ∈ p0, x.block < W.heap.size := by obtain ⟨m, hm⟩ := k0; exact DataW.trod_lt m _ _ _ hm
  obtain ⟨a0, rfl, _⟩ := okWide_struct Try.underlying25 (hval 0 25 v0 rfl rfl)
  obtain ⟨c0, rfl⟩ : ∃ c : List Value, a0 = c.toArray := ⟨a0.toList, by simp⟩
  obtain ⟨b0, H0⟩ : ∃ b, (entR).r (gh W) c0 b := by obtain ⟨fuel, hf⟩ := h0; exact opn_25 _ W _ _ _ _ _ hf
  have k1 := h1
  have lt1 : ∀ x ∈ p1, x.block < W.heap.size := by obtain ⟨m, hm⟩ := k1; exact DataW.trod_lt m _ _ _ hm
  obtain ⟨a1, rfl, _⟩ := okWide_struct Try.underlying25 (hval 1 25 v1 rfl rfl)
  obtain ⟨c1, rfl⟩ : ∃ c : List Value, a1 = c.toArray := ⟨a1.toList, by simp⟩
  obtain ⟨b1, H1⟩ : ∃ b, (entR).r (gh W) c1 b := by obtain ⟨fuel, hf⟩ := h1; exact opn_25 _ W _ _ _ _ _ hf
  have k2 := h2
  have lt2 : ∀ x ∈ p2, x.block < W.heap.size := by obtain ⟨m, hm⟩ := k2; exact DataW.trod_lt m _ _ _ hm
  obtain ⟨a2, len2, cap2, rfl⟩ := okWide_slice Try.underlying22 (hval 2 22 v2 rfl rfl)
  obtain ⟨b2, H2⟩ : ∃ l, Bs W (.slice a2 len2 cap2) l := by
    obtain ⟨fuel, hf⟩ := h2
    rcases open_ints Try.underlying22 Try.underlying5 (by kernel_rfl) hf with ⟨hcs, _⟩ | ⟨x, l, c, zs, hcs, _, hl, hm, hz, _, hcell, hwz⟩
    · simp [Value.cells] at hcs
      obtain ⟨rfl, rfl, rfl⟩ := hcs
      exact ⟨[], Row.nil W⟩
    · simp [Value.cells] at hcs
      obtain ⟨rfl, rfl, rfl⟩ := hcs
      exact bs_open hl hm (by simpa using hz) hcell hwz
  have k3 := h3
  have lt3 : ∀ x ∈ p3, x.block < W.heap.size := by obtain ⟨m, hm⟩ := k3; exact DataW.trod_lt m _ _ _ hm
  obtain ⟨a3, rfl, _⟩ := okWide_struct Try.underlying27 (hval 3 27 v3 rfl rfl)
  obtain ⟨c3, rfl⟩ : ∃ c : List Value, a3 = c.toArray := ⟨a3.toList, by simp⟩
  obtain ⟨b3, H3⟩ : ∃ b, (recR).r (gh W) c3 b := by obtain ⟨fuel, hf⟩ := h3; exact opn_27 _ W _ _ _ _ _ hf
  clear hA0 hval0
  refine Calls.mono (SealedHides_c c0 b0 c1 b1 (.slice a2 len2 cap2) b2 c3 b3 W H0 H1 H2 H3) fun e W' ⟨v', he, hv, bel⟩ => ?_
  subst he
  subst hv
  exact ⟨_, rfl, _, _, _, [], _, [], hW', trodAll_mk1 (shut_bool Try.underlying4 _), (trodAll_cons_mk (Below.trod laidOut (by kernel_rfl) (of_decide_eq_true (by kernel_rfl)) k0 bel lt0) (trodAll_cons_mk (Below.trod laidOut (by kernel_rfl) (of_decide_eq_true (by kernel_rfl)) k1 bel lt1) (trodAll_cons_mk (Below.trod laidOut (by kernel_rfl) (of_decide_eq_true (by kernel_rfl)) k2 bel lt2) (trodAll_cons_mk (Below.trod laidOut (by kernel_rfl) (of_decide_eq_true (by kernel_rfl)) k3 bel lt3) trodAll_mk0)))), rfl, bel.frame _, fun h => by cases h⟩
theorem over : Rows.sealedHidesRow.holds Try.pinned (OpenSpec.ofChange Rows.sealedHidesSpec) :=
  OpenClaim.holds_of_wide 3 Try.f3 rfl rfl rfl rfl rfl rfl rfl ⟨rfl, rfl, rfl, rfl, rfl⟩ rfl rfl rfl rfl rfl (by kernel_rfl) Try.func3 (by kernel_rfl)
    (of_decide_eq_true (by kernel_rfl)) (by unfold Func.isWrapper; first | (rw [if_pos (by decide +kernel)]; kernel_rfl) | (rw [if_neg (by decide +kernel)]; exact ⟨rfl, rfl⟩))
    (fun os started H enc _ => lifted os started H enc)
end Go.Proofs.Ytoajodjcmeijgaa.sealedHides
namespace Go.Proofs.Ytoajodjcmeijgaa
theorem SealedHides_holds : Rows.SealedHidesSaid := sealedHides.over
end Go.Proofs.Ytoajodjcmeijgaa
