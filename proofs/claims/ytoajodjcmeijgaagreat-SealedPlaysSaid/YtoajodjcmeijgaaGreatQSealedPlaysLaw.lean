/-
  Every play of entries that are sealed, records that are opened, also with other numbers and keys, and boxes of any text, by signs, is the document's.
  Its conditions: none: whatever the input, in whatever memory.
-/
import Derived.Test.YtoajodjcmeijgaaGreatRows
import Derived.ProofKit
import Derived.OpenShut
import Derived.ShutString
import Derived.ChangeOld
import Derived.Test.YtoajodjcmeijgaaGreatQSealedPlaysPlA
set_option linter.unusedVariables false
set_option linter.unusedSimpArgs false
namespace Go.Proofs.YtoajodjcmeijgaaGreat.sealedPlays
open Go.ChangeShapes Go.WideShapes Go.ChangeAt Go.RowKit Go.Ecal
open Go.ChangeMaps (open_string shut_string)
set_option maxRecDepth 100000 in
theorem opn_35 : Opn Tryz.prog 35 recR := fun enc w sp hd fuel cs x h => by
  obtain ⟨xs, n, _, _, hl, hxl, hf⟩ := DataW.trod_struct Tryz.underlying35 h
  have hlen : cs.length = 5 := hl.trans (by kernel_rfl)
  obtain ⟨c0, t0, rfl, l0⟩ := cons_of_len hlen
  obtain ⟨c1, t1, rfl, l1⟩ := cons_of_len l0
  obtain ⟨c2, t2, rfl, l2⟩ := cons_of_len l1
  obtain ⟨c3, t3, rfl, l3⟩ := cons_of_len l2
  obtain ⟨c4, t4, rfl, l4⟩ := cons_of_len l3
  obtain rfl := List.eq_nil_of_length_eq_zero l4
  have e0 : DataW.trod enc Tryz.prog w 0 sp hd n 3 [c0] = xs[0]? := Opn.part hf rfl rfl rfl (k := 1) (by kernel_rfl) rfl
  obtain ⟨a0, h0⟩ := Opn.field (Opn.int Tryz.underlying3) (by rw [hxl]; decide) e0
  have e1 : DataW.trod enc Tryz.prog w 0 sp hd n 3 [c1] = xs[1]? := Opn.part hf rfl rfl rfl (k := 1) (by kernel_rfl) rfl
  obtain ⟨a1, h1⟩ := Opn.field (Opn.int Tryz.underlying3) (by rw [hxl]; decide) e1
  have e2 : DataW.trod enc Tryz.prog w 0 sp hd n 3 [c2] = xs[2]? := Opn.part hf rfl rfl rfl (k := 1) (by kernel_rfl) rfl
  obtain ⟨a2, h2⟩ := Opn.field (Opn.int Tryz.underlying3) (by rw [hxl]; decide) e2
  have e3 : DataW.trod enc Tryz.prog w 0 sp hd n 3 [c3] = xs[3]? := Opn.part hf rfl rfl rfl (k := 1) (by kernel_rfl) rfl
  obtain ⟨a3, h3⟩ := Opn.field (Opn.int Tryz.underlying3) (by rw [hxl]; decide) e3
  have e4 : DataW.trod enc Tryz.prog w 0 sp hd n 22 [c4] = xs[4]? := Opn.part hf rfl rfl rfl (k := 1) (by kernel_rfl) rfl
  obtain ⟨a4, h4⟩ := Opn.field (Opn.bytes Tryz.underlying22 Tryz.underlying5 (by kernel_rfl)) (by rw [hxl]; decide) e4
  obtain ⟨q, rh0⟩ := h0; simp only [List.cons.injEq, and_true] at q; subst q
  obtain ⟨q, rh1⟩ := h1; simp only [List.cons.injEq, and_true] at q; subst q
  obtain ⟨q, rh2⟩ := h2; simp only [List.cons.injEq, and_true] at q; subst q
  obtain ⟨q, rh3⟩ := h3; simp only [List.cons.injEq, and_true] at q; subst q
  obtain ⟨vh4, q, oh4, rh4⟩ := h4; simp only [List.cons.injEq, and_true] at q; subst q
  exact ⟨⟨a0, a1, a2, a3, a4⟩, ⟨_, rfl, rh0, rh1, rh2, rh3, ⟨oh4, rh4⟩⟩⟩
set_option maxRecDepth 100000 in
theorem opn_80 : Opn Tryz.prog 80 wrapR := fun enc w sp hd fuel cs x h => by
  obtain ⟨xs, n, _, _, hl, hxl, hf⟩ := DataW.trod_struct Tryz.underlying80 h
  have hlen : cs.length = 2 := hl.trans (by kernel_rfl)
  obtain ⟨c0, t0, rfl, l0⟩ := cons_of_len hlen
  obtain ⟨c1, t1, rfl, l1⟩ := cons_of_len l0
  obtain rfl := List.eq_nil_of_length_eq_zero l1
  have e0 : DataW.trod enc Tryz.prog w 0 sp hd n 3 [c0] = xs[0]? := Opn.part hf rfl rfl rfl (k := 1) (by kernel_rfl) rfl
  obtain ⟨a0, h0⟩ := Opn.field (Opn.int Tryz.underlying3) (by rw [hxl]; decide) e0
  have e1 : DataW.trod enc Tryz.prog w 0 sp hd n 22 [c1] = xs[1]? := Opn.part hf rfl rfl rfl (k := 1) (by kernel_rfl) rfl
  obtain ⟨a1, h1⟩ := Opn.field (Opn.bytes Tryz.underlying22 Tryz.underlying5 (by kernel_rfl)) (by rw [hxl]; decide) e1
  obtain ⟨q, rh0⟩ := h0; simp only [List.cons.injEq, and_true] at q; subst q
  obtain ⟨vh1, q, oh1, rh1⟩ := h1; simp only [List.cons.injEq, and_true] at q; subst q
  exact ⟨⟨a0, a1⟩, ⟨_, rfl, rh0, ⟨oh1, rh1⟩⟩⟩
set_option maxRecDepth 100000 in
theorem opn_38 : Opn Tryz.prog 38 entR := fun enc w sp hd fuel cs x h => by
  obtain ⟨xs, n, _, _, hl, hxl, hf⟩ := DataW.trod_struct Tryz.underlying38 h
  have hlen : cs.length = 9 := hl.trans (by kernel_rfl)
  obtain ⟨c0, t0, rfl, l0⟩ := cons_of_len hlen
  obtain ⟨c1, t1, rfl, l1⟩ := cons_of_len l0
  obtain ⟨c2, t2, rfl, l2⟩ := cons_of_len l1
  obtain ⟨c3, t3, rfl, l3⟩ := cons_of_len l2
  obtain ⟨c4, t4, rfl, l4⟩ := cons_of_len l3
  obtain ⟨c5, t5, rfl, l5⟩ := cons_of_len l4
  obtain ⟨c6, t6, rfl, l6⟩ := cons_of_len l5
  obtain ⟨c7, t7, rfl, l7⟩ := cons_of_len l6
  obtain ⟨c8, t8, rfl, l8⟩ := cons_of_len l7
  obtain rfl := List.eq_nil_of_length_eq_zero l8
  have e0 : DataW.trod enc Tryz.prog w 0 sp hd n 3 [c0] = xs[0]? := Opn.part hf rfl rfl rfl (k := 1) (by kernel_rfl) rfl
  obtain ⟨a0, h0⟩ := Opn.field (Opn.int Tryz.underlying3) (by rw [hxl]; decide) e0
  have e1 : DataW.trod enc Tryz.prog w 0 sp hd n 3 [c1] = xs[1]? := Opn.part hf rfl rfl rfl (k := 1) (by kernel_rfl) rfl
  obtain ⟨a1, h1⟩ := Opn.field (Opn.int Tryz.underlying3) (by rw [hxl]; decide) e1
  have e2 : DataW.trod enc Tryz.prog w 0 sp hd n 3 [c2] = xs[2]? := Opn.part hf rfl rfl rfl (k := 1) (by kernel_rfl) rfl
  obtain ⟨a2, h2⟩ := Opn.field (Opn.int Tryz.underlying3) (by rw [hxl]; decide) e2
  have e3 : DataW.trod enc Tryz.prog w 0 sp hd n 22 [c3] = xs[3]? := Opn.part hf rfl rfl rfl (k := 1) (by kernel_rfl) rfl
  obtain ⟨a3, h3⟩ := Opn.field (Opn.bytes Tryz.underlying22 Tryz.underlying5 (by kernel_rfl)) (by rw [hxl]; decide) e3
  have e4 : DataW.trod enc Tryz.prog w 0 sp hd n 22 [c4] = xs[4]? := Opn.part hf rfl rfl rfl (k := 1) (by kernel_rfl) rfl
  obtain ⟨a4, h4⟩ := Opn.field (Opn.bytes Tryz.underlying22 Tryz.underlying5 (by kernel_rfl)) (by rw [hxl]; decide) e4
  have e5 : DataW.trod enc Tryz.prog w 0 sp hd n 3 [c5] = xs[5]? := Opn.part hf rfl rfl rfl (k := 1) (by kernel_rfl) rfl
  obtain ⟨a5, h5⟩ := Opn.field (Opn.int Tryz.underlying3) (by rw [hxl]; decide) e5
  have e6 : DataW.trod enc Tryz.prog w 0 sp hd n 3 [c6] = xs[6]? := Opn.part hf rfl rfl rfl (k := 1) (by kernel_rfl) rfl
  obtain ⟨a6, h6⟩ := Opn.field (Opn.int Tryz.underlying3) (by rw [hxl]; decide) e6
  have e7 : DataW.trod enc Tryz.prog w 0 sp hd n 3 [c7] = xs[7]? := Opn.part hf rfl rfl rfl (k := 1) (by kernel_rfl) rfl
  obtain ⟨a7, h7⟩ := Opn.field (Opn.int Tryz.underlying3) (by rw [hxl]; decide) e7
  have e8 : DataW.trod enc Tryz.prog w 0 sp hd n 36 [c8] = xs[8]? := Opn.part hf rfl rfl rfl (k := 1) (by kernel_rfl) rfl
  obtain ⟨a8, h8⟩ := Opn.field (Opn.list (τ := wrapR) Tryz.underlying36 (by kernel_rfl) (by decide) opn_80) (by rw [hxl]; decide) e8
  obtain ⟨q, rh0⟩ := h0; simp only [List.cons.injEq, and_true] at q; subst q
  obtain ⟨q, rh1⟩ := h1; simp only [List.cons.injEq, and_true] at q; subst q
  obtain ⟨q, rh2⟩ := h2; simp only [List.cons.injEq, and_true] at q; subst q
  obtain ⟨vh3, q, oh3, rh3⟩ := h3; simp only [List.cons.injEq, and_true] at q; subst q
  obtain ⟨vh4, q, oh4, rh4⟩ := h4; simp only [List.cons.injEq, and_true] at q; subst q
  obtain ⟨q, rh5⟩ := h5; simp only [List.cons.injEq, and_true] at q; subst q
  obtain ⟨q, rh6⟩ := h6; simp only [List.cons.injEq, and_true] at q; subst q
  obtain ⟨q, rh7⟩ := h7; simp only [List.cons.injEq, and_true] at q; subst q
  obtain ⟨vh8, q, oh8, rh8⟩ := h8; simp only [List.cons.injEq, and_true] at q; subst q
  exact ⟨⟨a0, a1, a2, a3, a4, a5, a6, a7, a8⟩, ⟨_, _, _, rfl, rh0, rh1, rh2, ⟨oh3, rh3⟩, ⟨oh4, rh4⟩, rh5, rh6, rh7, ⟨oh8, rh8⟩⟩⟩
set_option maxRecDepth 100000 in
theorem opn_40 : Opn Tryz.prog 40 sopR := fun enc w sp hd fuel cs x h => by
  obtain ⟨xs, n, _, _, hl, hxl, hf⟩ := DataW.trod_struct Tryz.underlying40 h
  have hlen : cs.length = 20 := hl.trans (by kernel_rfl)
  obtain ⟨c0, t0, rfl, l0⟩ := cons_of_len hlen
  obtain ⟨c1, t1, rfl, l1⟩ := cons_of_len l0
  obtain ⟨c2, t2, rfl, l2⟩ := cons_of_len l1
  obtain ⟨c3, t3, rfl, l3⟩ := cons_of_len l2
  obtain ⟨c4, t4, rfl, l4⟩ := cons_of_len l3
  obtain ⟨c5, t5, rfl, l5⟩ := cons_of_len l4
  obtain ⟨c6, t6, rfl, l6⟩ := cons_of_len l5
  obtain ⟨c7, t7, rfl, l7⟩ := cons_of_len l6
  obtain ⟨c8, t8, rfl, l8⟩ := cons_of_len l7
  obtain ⟨c9, t9, rfl, l9⟩ := cons_of_len l8
  obtain ⟨c10, t10, rfl, l10⟩ := cons_of_len l9
  obtain ⟨c11, t11, rfl, l11⟩ := cons_of_len l10
  obtain ⟨c12, t12, rfl, l12⟩ := cons_of_len l11
  obtain ⟨c13, t13, rfl, l13⟩ := cons_of_len l12
  obtain ⟨c14, t14, rfl, l14⟩ := cons_of_len l13
  obtain ⟨c15, t15, rfl, l15⟩ := cons_of_len l14
  obtain ⟨c16, t16, rfl, l16⟩ := cons_of_len l15
  obtain ⟨c17, t17, rfl, l17⟩ := cons_of_len l16
  obtain ⟨c18, t18, rfl, l18⟩ := cons_of_len l17
  obtain ⟨c19, t19, rfl, l19⟩ := cons_of_len l18
  obtain rfl := List.eq_nil_of_length_eq_zero l19
  have e0 : DataW.trod enc Tryz.prog w 0 sp hd n 3 [c0] = xs[0]? := Opn.part hf rfl rfl rfl (k := 1) (by kernel_rfl) rfl
  obtain ⟨a0, h0⟩ := Opn.field (Opn.int Tryz.underlying3) (by rw [hxl]; decide) e0
  have e1 : DataW.trod enc Tryz.prog w 0 sp hd n 3 [c1] = xs[1]? := Opn.part hf rfl rfl rfl (k := 1) (by kernel_rfl) rfl
  obtain ⟨a1, h1⟩ := Opn.field (Opn.int Tryz.underlying3) (by rw [hxl]; decide) e1
  have e2 : DataW.trod enc Tryz.prog w 0 sp hd n 3 [c2] = xs[2]? := Opn.part hf rfl rfl rfl (k := 1) (by kernel_rfl) rfl
  obtain ⟨a2, h2⟩ := Opn.field (Opn.int Tryz.underlying3) (by rw [hxl]; decide) e2
  have e3 : DataW.trod enc Tryz.prog w 0 sp hd n 3 [c3] = xs[3]? := Opn.part hf rfl rfl rfl (k := 1) (by kernel_rfl) rfl
  obtain ⟨a3, h3⟩ := Opn.field (Opn.int Tryz.underlying3) (by rw [hxl]; decide) e3
  have e4 : DataW.trod enc Tryz.prog w 0 sp hd n 22 [c4] = xs[4]? := Opn.part hf rfl rfl rfl (k := 1) (by kernel_rfl) rfl
  obtain ⟨a4, h4⟩ := Opn.field (Opn.bytes Tryz.underlying22 Tryz.underlying5 (by kernel_rfl)) (by rw [hxl]; decide) e4
  have e5 : DataW.trod enc Tryz.prog w 0 sp hd n 22 [c5] = xs[5]? := Opn.part hf rfl rfl rfl (k := 1) (by kernel_rfl) rfl
  obtain ⟨a5, h5⟩ := Opn.field (Opn.bytes Tryz.underlying22 Tryz.underlying5 (by kernel_rfl)) (by rw [hxl]; decide) e5
  have e6 : DataW.trod enc Tryz.prog w 0 sp hd n 35 [c6, c7, c8, c9, c10] = xs[6]? := Opn.part hf rfl rfl rfl (k := 5) (by kernel_rfl) rfl
  obtain ⟨a6, h6⟩ := Opn.field opn_35 (by rw [hxl]; decide) e6
  have e7 : DataW.trod enc Tryz.prog w 0 sp hd n 38 [c11, c12, c13, c14, c15, c16, c17, c18, c19] = xs[7]? := Opn.part hf rfl rfl rfl (k := 9) (by kernel_rfl) rfl
  obtain ⟨a7, h7⟩ := Opn.field opn_38 (by rw [hxl]; decide) e7
  obtain ⟨q, rh0⟩ := h0; simp only [List.cons.injEq, and_true] at q; subst q
  obtain ⟨q, rh1⟩ := h1; simp only [List.cons.injEq, and_true] at q; subst q
  obtain ⟨q, rh2⟩ := h2; simp only [List.cons.injEq, and_true] at q; subst q
  obtain ⟨q, rh3⟩ := h3; simp only [List.cons.injEq, and_true] at q; subst q
  obtain ⟨vh4, q, oh4, rh4⟩ := h4; simp only [List.cons.injEq, and_true] at q; subst q
  obtain ⟨vh5, q, oh5, rh5⟩ := h5; simp only [List.cons.injEq, and_true] at q; subst q
  obtain ⟨wh6_4, q, ph6_0, ph6_1, ph6_2, ph6_3, ph6_4⟩ := h6; simp only [List.cons.injEq, and_true] at q; obtain ⟨rfl, rfl, rfl, rfl, rfl⟩ := q
  obtain ⟨wh7_3, wh7_4, wh7_8, q, ph7_0, ph7_1, ph7_2, ph7_3, ph7_4, ph7_5, ph7_6, ph7_7, ph7_8⟩ := h7; simp only [List.cons.injEq, and_true] at q; obtain ⟨rfl, rfl, rfl, rfl, rfl, rfl, rfl, rfl, rfl⟩ := q
  exact ⟨⟨a0, a1, a2, a3, a4, a5, a6, a7⟩, ⟨_, _, _, _, _, _, rfl, rh0, rh1, rh2, rh3, ⟨oh4, rh4⟩, ⟨oh5, rh5⟩, ph6_0, ph6_1, ph6_2, ph6_3, ph6_4, ph7_0, ph7_1, ph7_2, ph7_3, ph7_4, ph7_5, ph7_6, ph7_7, ph7_8⟩⟩
set_option maxRecDepth 100000 in
set_option maxHeartbeats 4000000 in
theorem SealedPlays_w (v0 : Value) (secret : List UInt8) (v1 : Value) (ops : (List SOp)) (I : Gh) (R : List HP) (w : World) (S : Sat w I (R)) (Q0 : RoB I v0 secret) (Q1 : RoX I v1 sopR ops) : Ret Tryz.prog 3 [v0, v1] w fun v w' => ∃ J : Gh, Gh.le I J ∧ .bool true = v ∧ Sat w' J (R) := by
  have lq0 := RoB.le Q0 S.le
  have lq1 := XRow.le (Q1.row S.le)
  refine ret_E Tryz.func3 rfl Tryz.ntmps3 (by simp) ?_
  refine EC_seq (EC_reg (vA (.bool false) rfl rfl (EL_nil (thn_n (EC_seq ?_)))))
  refine EC_seq (EC_reg ?_)
  refine eR rfl F4 rfl (anchor_c I _ _ S) ?_
  rintro _ w11 ⟨I13, le14, rfl, S12⟩
  refine vl (.bool false) rfl (r_dec (show (!true) = false from rfl) (r_not rfl)) (EL_nil (thn_n ?_))
  refine EC_cond_false rfl ?_
  refine EC_skip (thn_n (EC_seq (EC_seq (EC_reg (vM v0 rfl rfl ?_)))))
  refine vl (.int .i64 (secret.length : Int)) rfl (lenB (r_len rfl (Q0 _ (lT le14 S12.le)) U22)) (vl (.bool (decide (100 < (secret.length : Int)))) rfl (r_gtr rfl rfl) (vM (.bool (decide (100 < (secret.length : Int)))) rfl rfl (EL_gite 29 rfl rfl rfl v1 rfl (fun g15 => r_move rfl) (EL_gite 29 rfl rfl rfl (.int .i64 (ops.length : Int)) rfl (fun g16 => r_lenX (cond_of g16 rfl) (Q1.row (lT le14 S12.le)) U23) (EL_gite 29 rfl rfl rfl (.bool (decide (30 < (ops.length : Int)))) rfl (fun g17 => r_gtr (cond_of g17 rfl) rfl) ?_)))))
  refine vl (.bool ((decide (100 < (secret.length : Int))) || (decide (30 < (ops.length : Int))))) rfl (r_or rfl rfl rfl) (EL_nil (thn_n ?_))
  refine EC_cond (t := (decide (100 < (secret.length : Int))) || (decide (30 < (ops.length : Int)))) rfl (fun h18 => ?_) (fun h18 => ?_)
  refine EC_seq (EC_reg (vA (.bool true) rfl rfl (EL_nil (thn_n (EC_ret ?_)))))
  refine thn_r ?_
  refine fin1 Tryz.results3 (show _ = .bool true from rfl) ⟨_, rfl, ?_⟩
  exact ⟨I13, le14, rfl, S12⟩
  have hg0 : secret.length ≤ 100 ∧ ops.length ≤ 30 := by simp at h18; omega
  refine EC_skip (thn_n (EC_seq (EC_reg ?_)))
  refine eR rfl F5 rfl (Signs_c I13 _ _ S12) ?_
  rintro _ w19 ⟨p21, rfl, S20⟩
  refine vl (.agg ([.slice none 0 0]).toArray) rfl (r_buildS (l := []) st_30 rfl (Eq.trans (show Instr.fill _ _ [] = _ from fill_end) (by kernel_rfl))) ?_
  refine EL_box [.slice none 0 0] rfl rfl rfl ?_
  intro b22 w23 k24 A25 B26 z27
  have S28 := S20.newB B26 A25 k24
  refine vA p21 rfl rfl (vA (ptr b22) rfl rfl (EL_nil (thn_n (EC_seq (EC_reg ?_)))))
  refine EL_alloc (z := .agg #[.slice none 0 0, .slice none 0 0, .slice none 0 0, .slice none 0 0]) [.slice none 0 0, .slice none 0 0, .slice none 0 0, .slice none 0 0] rfl (by kernel_rfl) rfl ?_
  intro b29 w30 k31 A32 B33 z34
  have S35 := S28.newB B33 A32 k31
  refine EL_nil (thn_n (EC_seq (EC_seq (EC_reg (vM (.int .i64 0) rfl rfl ?_)))))
  refine EL_nil (thn_n (EC_block ?_))
  have S36 : Sat w30 I13 (OwnX 78 thR (.slice none 0 0) [] :: Blk b29 31 [.slice none 0 0, .slice none 0 0, .slice none 0 0, .slice none 0 0] :: Blk b22 30 [.slice none 0 0] :: Suite p21 ([] : List Thing) :: R) := OwnX.nil S35 78 thR
  have S37 := S36.fr2
  have S38 := RefT.cls S37
  have q40 : [] = List.replicate 0 tKey := rfl
  have S39 := Sat.ah0 (RefT (ptr b22)) S38 q40
  have q42 : ([] : List Thing) = List.replicate 0 tKey := rfl
  have S41 := Sat.ah2 (Suite p21) S39 q42
  have S43 := S41.fr1
  have S44 := S43.fr1
  have S45 := S44.fr2
  refine EC_loop (fun m' E' w' => ∃ j : Nat, ∃ vs : List Value, ∃ J : Gh, m' = 4 - j ∧ E' 37 = .int .i64 (j : Int) ∧ E' 0 = v0 ∧ E' 1 = v1 ∧ E' 4 = .bool false ∧ E' 5 = p21 ∧ E' 6 = ptr b22 ∧ E' 7 = ptr b29 ∧ (j ≤ 4) ∧ (KeysAt J vs j) ∧ Gh.le I13 J ∧ Sat w' J (Suite p21 (List.replicate j tKey) :: RefT (ptr b22) (List.replicate j tKey) :: Blk b29 31 vs :: R)) _ ⟨0, [.slice none 0 0, .slice none 0 0, .slice none 0 0, .slice none 0 0], I13, rfl, rfl, rfl, rfl, rfl, rfl, rfl, rfl, by omega, KeysAt.zero, (Gh.le_refl _), S45⟩ ?_
  rintro _ E46 w47 ⟨j, vs, I48, rfl, e49, e50, e51, e52, e53, e54, e55, hj, hK, le56, S57⟩
  refine EC_seq (EC_reg (vl (.bool (decide ((j : Int) < 4))) rfl (r_lss (by exact e49) rfl) (EL_nil (thn_n (EC_seq ?_)))))
  refine EC_if (p := (j : Int) < 4) rfl (fun h58 => ?_) (fun h58 => ?_)
  refine EC_skip (thn_n (EC_seq (EC_block (EC_seq ?_))))
  have hvl : vs.length = 4 := hK.1
  skip
  refine EC_reg (vM (.int .i64 (j : Int)) rfl e49 (vA (.int .i64 (j : Int)) rfl rfl (EL_nil (thn_n (EC_seq ?_)))))
  refine EC_reg (vM (.int .i64 (j : Int)) rfl rfl (vM p21 rfl e53 ?_))
  refine eR rfl F6 rfl (Key_c p21 (List.replicate j tKey) I48 _ _ S57 (by simp; omega)) ?_
  rintro _ w59 ⟨v61, rfl, S60⟩
  refine vl (ptr b29 (0 + ((j : Int) : Int).toNat)) rfl (r_indexP (i := (j : Int)) (by exact e55) rfl (by omega) (by omega) U31 (by kernel_rfl)) ?_
  refine EL_storeA (u := v61) rfl rfl (S60.arr 3 rfl) (by first | decide | (simp; omega) | simp) (own_one (S60.own 0 rfl)) (by kernel_rfl) ?_
  intro w62 A63 K64 z65
  have S66 := S60.wr3 (ds := (vs.set (0 + ((j : Int) : Int).toNat) v61)) K64 A63
  refine EL_nil (thn_n (EC_reg (vM (ptr b22) rfl e54 ?_)))
  have S67 := S66.fr2
  refine eR rfl F7 rfl (rKey_c (ptr b22) (List.replicate j tKey) I48 _ _ S67 (by simp; omega)) ?_
  rintro _ w68 ⟨v70, I71, le72, rfl, S69⟩
  refine EL_nil (inB_n (thn_n (EC_reg ?_)))
  refine EL_int ((j : Int) + 1) rfl (r_addi (by exact e49) rfl (by omega)) ?_
  intro x73 hx73
  refine vM (.int .i64 x73) rfl rfl (EL_nil (thn_n ?_))
  obtain ⟨I74, le75, S76, H77⟩ := S69.fb2
  have q79 : (List.replicate j tKey) ++ [tKey] = List.replicate (j + 1) tKey := by rw [List.replicate_succ']
  have S78 := Sat.ah1 (RefT (ptr b22)) S76 q79
  have q81 : (List.replicate j tKey) ++ [tKey] = List.replicate (j + 1) tKey := by rw [List.replicate_succ']
  have S80 := Sat.ah2 (Suite p21) S78 q81
  have hK2 := KeysAt.next (hK.up (lT le72 le75)) (by omega) (row_one (H77 _ S80.le)) (rob_as H77 (by simp)) (k := 0 + (j : Int).toNat) (by omega)
  have S82 := S80.dr0
  have S83 := S82.fr2
  have S84 := S83.fr1
  have S85 := S84.fr2
  refine ⟨_, ?_, j + 1, vs.set (0 + ((j : Int) : Int).toNat) v61, I74, rfl, (Eq.trans (show _ = Value.int .i64 x73 from rfl) (congrArg _ (by omega))), (by exact e50), (by exact e51), (by exact e52), (by exact e53), (by exact e54), (by exact e55), by omega, hK2, (lT (lT le56 le72) le75), S85⟩
  first | omega | (simp; omega)
  refine EC_exit (thn_x (thn_x (inB_hit (thn_n (EC_seq ?_)))))
  refine EC_reg (vA (.slice none 0 0) rfl rfl (EL_nil (thn_n (EC_seq (EC_seq ?_)))))
  refine EC_reg (vM v1 rfl e51 (vl (.int .i64 (ops.length : Int)) rfl (r_lenX rfl (Q1.row (lT (lT le14 le56) S57.le)) U23) (vM (.int .i64 0) rfl rfl (EL_nil (thn_n ?_)))))
  refine EC_block ?_
  have S86 : Sat w47 I48 (OwnX 35 recR (.slice none 0 0) [] :: Suite p21 (List.replicate j tKey) :: RefT (ptr b22) (List.replicate j tKey) :: Blk b29 31 vs :: R) := OwnX.nil S57 35 recR
  refine EC_loop (fun m' E' w' => ∃ i : Nat, ∃ L : List Thing, ∃ tv : Value, ∃ tl : List Record, ∃ J : Gh, m' = ops.length - i ∧ E' 49 = .int .i64 (i : Int) ∧ E' 9 = tv ∧ E' 0 = v0 ∧ E' 5 = p21 ∧ E' 6 = ptr b22 ∧ E' 7 = ptr b29 ∧ E' 47 = v1 ∧ E' 48 = .int .i64 (ops.length : Int) ∧ (i ≤ ops.length) ∧ (Plain L) ∧ (L.length ≤ 4 + 3 * i) ∧ (Texts 10000 L) ∧ (∀ x ∈ tl, smallR x) ∧ (tl.length ≤ i) ∧ (KeysAt J vs 4) ∧ Gh.le I48 J ∧ Sat w' J (OwnX 35 recR tv tl :: Suite p21 L :: RefT (ptr b22) L :: Blk b29 31 vs :: R)) _ ⟨0, List.replicate j tKey, .slice none 0 0, [], I48, rfl, rfl, rfl, (by exact e50), (by exact e53), (by exact e54), (by exact e55), rfl, rfl, Nat.zero_le _, Plain.keys _, (by simp; omega), (fun t h => by rw [List.eq_of_mem_replicate h]; decide), (fun x h => by cases h), (by simp), (by rw [show (4 : Nat) = j by omega]; exact hK), (Gh.le_refl _), S86⟩ ?_
  rintro _ E87 w88 ⟨i, L, tv, tl, I89, rfl, e90, e91, e92, e93, e94, e95, e96, e97, hi, hPl, hLl, hTx, hTl, htl, hK4, le98, S99⟩
  refine EC_seq (EC_reg (vl (.bool (decide ((i : Int) < (ops.length : Int)))) rfl (r_lss (by exact e90) (by exact e97)) (EL_nil (thn_n (EC_seq ?_)))))
  refine EC_if (p := (i : Int) < (ops.length : Int)) rfl (fun h100 => ?_) (fun h100 => ?_)
  refine EC_skip (thn_n (EC_seq (EC_block (EC_seq ?_))))
  skip
  refine EC_reg (vl (ptr (blkOf v1) (offOf v1 + ((i : Int) : Int).toNat * 20)) rfl (r_indexX (by exact e96) (Q1.row (lT (lT (lT le14 le56) le98) S99.le)) (by exact e90) (by omega) (by first | omega | (simp; omega) | simp) U23 (by kernel_rfl)) ?_)
  obtain ⟨a101, ha102⟩ := get_some (l := ops) (j := ((i : Int) : Int).toNat) (by first | omega | (simp; omega) | simp)
  obtain ⟨cs103, hc104, he105⟩ := Q1.el ha102
  obtain ⟨v110, v113, v120, v126, v129, v135, rfl, r106, r107, r108, r109, ⟨o111, H112⟩, ⟨o114, H115⟩, r116, r117, r118, r119, ⟨o121, H122⟩, r123, r124, r125, ⟨o127, H128⟩, ⟨o130, H131⟩, r132, r133, r134, ⟨o136, H137⟩⟩ := hc104
  refine vl (.agg ((sopRC a101 v110 v113 v120 v126 v129 v135)).toArray) rfl (r_loadR (cs := (sopRC a101 v110 v113 v120 v126 v129 v135)) rfl (he105 _ (lT (lT (lT le14 le56) le98) S99.le)) U40 rfl (by kernel_rfl)) ?_
  refine EL_alloc (z := .agg #[.int .i64 0, .int .i64 0, .int .i64 0, .int .i64 0, .slice none 0 0, .slice none 0 0, .int .i64 0, .int .i64 0, .int .i64 0, .int .i64 0, .slice none 0 0, .int .i64 0, .int .i64 0, .int .i64 0, .slice none 0 0, .slice none 0 0, .int .i64 0, .int .i64 0, .int .i64 0, .slice none 0 0]) sopR0 rfl (by kernel_rfl) rfl ?_
  intro b138 w139 k140 A141 B142 z143
  have S144 := S99.newB B142 A141 k140
  refine sA (sopRC a101 v110 v113 v120 v126 v129 v135) rfl rfl (S144.arr 0 rfl) rfl (by kernel_rfl) (ones_cons rfl (ones_cons rfl (ones_cons rfl (ones_cons rfl (ones_cons o111 (ones_cons o114 (ones_cons rfl (ones_cons rfl (ones_cons rfl (ones_cons rfl (ones_cons o121 (ones_cons rfl (ones_cons rfl (ones_cons rfl (ones_cons o127 (ones_cons o130 (ones_cons rfl (ones_cons rfl (ones_cons rfl (ones_cons o136 (fun _ h => nomatch h))))))))))))))))))))) ?_
  intro w145 A146 K147 z148
  have S149 := S144.wr0 (ds := (sopRC a101 v110 v113 v120 v126 v129 v135)) K147 A146
  refine EL_nil (thn_n (EC_seq (EC_seq ?_)))
  rcases Bool.eq_false_or_eq_true (smallE a101.entry) with hsm | hsm
  have hsa := small_iff.1 hsm
  refine EC_reg (vl (ptr b138 11) rfl (r_fieldP (o := 0) (s := 9) rfl U40 rfl (by kernel_rfl) (by decide) rfl) (vl (.agg ((entRC a101.entry v126 v129 v135)).toArray) rfl (r_loadR (o := 11) (cs := (entRC a101.entry v126 v129 v135)) rfl (range_cut0 (n := 9) 11 (Arr.range (S149.arr 0 rfl)) rfl) U38 rfl (by kernel_rfl)) ?_))
  refine eR rfl F8 rfl (Small_c (entRC a101.entry v126 v129 v135) a101.entry I89 _ _ S149 ⟨v126, v129, v135, rfl, (by first | assumption | (dsimp only; omega)), (by first | assumption | (dsimp only; omega)), (by first | assumption | (dsimp only; omega)), ⟨o127, (H128.up (lT (lT le14 le56) le98))⟩, ⟨o130, (H131.up (lT (lT le14 le56) le98))⟩, (by first | assumption | (dsimp only; omega)), (by first | assumption | (dsimp only; omega)), (by first | assumption | (dsimp only; omega)), ⟨o136, (H137.up (lT (lT le14 le56) le98))⟩⟩) ?_
  rintro _ w150 ⟨rfl, S151⟩
  refine vl (.bool false) rfl (r_dec (show (!true) = false from rfl) (r_not (Eq.trans (show _ = Value.bool (smallE a101.entry) from rfl) (congrArg Value.bool (show (smallE a101.entry) = true from hsm))))) (vM (.bool false) rfl rfl (gl  57 rfl rfl rfl rfl (ptr b138 6) rfl (r_fieldP (o := 0) (s := 5) rfl U40 rfl (by kernel_rfl) (by decide) rfl) (gl  57 rfl rfl rfl rfl (ptr b138 10) rfl (fP 6 rfl U35 (by kernel_rfl)) ?_)))
  refine gL  57 rfl rfl rfl rfl v120 rfl rfl (S151.arr 0 rfl) rfl U22 rfl ?_
  refine gl  57 rfl rfl rfl rfl (.int .i64 (a101.record.box.length : Int)) rfl (lenB (r_len rfl (H122 _ (lT (lT (lT le14 le56) le98) S151.le)) U22)) (gl  57 rfl rfl rfl rfl (.bool (decide (2500 < (a101.record.box.length : Int)))) rfl (r_gtr rfl rfl) (vF (.bool (decide (2500 < (a101.record.box.length : Int)))) rfl rfl rfl (vM (.bool (decide (2500 < (a101.record.box.length : Int)))) rfl rfl (EL_gite 64 rfl rfl rfl (ptr b138 4) rfl (fun g152 => fP 0 rfl U40 (by kernel_rfl)) (EL_gite 64 rfl rfl rfl v110 rfl (fun g153 => r_loadA (cond_of g153 rfl) (S151.arr 0 rfl) (u := v110) rfl U22 rfl) ?_)))))
  refine EL_gite 64 rfl rfl rfl (.int .i64 (a101.raw.length : Int)) rfl (fun g154 => lenB (r_len (cond_of g154 rfl) (H112 _ (lT (lT (lT le14 le56) le98) S151.le)) U22)) (EL_gite 64 rfl rfl rfl (.bool (decide (100 < (a101.raw.length : Int)))) rfl (fun g155 => r_gtr (cond_of g155 rfl) rfl) (vl (.bool ((decide (2500 < (a101.record.box.length : Int))) || (decide (100 < (a101.raw.length : Int))))) rfl (r_or rfl rfl rfl) (vM (.bool ((decide (2500 < (a101.record.box.length : Int))) || (decide (100 < (a101.raw.length : Int))))) rfl rfl (EL_gite 70 rfl rfl rfl (ptr b138 5) rfl (fun g156 => fP 0 rfl U40 (by kernel_rfl)) (EL_gite 70 rfl rfl rfl v113 rfl (fun g157 => r_loadA (cond_of g157 rfl) (S151.arr 0 rfl) (u := v113) rfl U22 rfl) ?_)))))
  refine EL_gite 70 rfl rfl rfl (.int .i64 (a101.text.length : Int)) rfl (fun g158 => lenB (r_len (cond_of g158 rfl) (H115 _ (lT (lT (lT le14 le56) le98) S151.le)) U22)) (EL_gite 70 rfl rfl rfl (.bool (decide (2500 < (a101.text.length : Int)))) rfl (fun g159 => r_gtr (cond_of g159 rfl) rfl) (vl (.bool (((decide (2500 < (a101.record.box.length : Int))) || (decide (100 < (a101.raw.length : Int)))) || (decide (2500 < (a101.text.length : Int))))) rfl (r_or rfl rfl rfl) (EL_nil (thn_n ?_))))
  refine EC_cond (t := ((decide (2500 < (a101.record.box.length : Int))) || (decide (100 < (a101.raw.length : Int)))) || (decide (2500 < (a101.text.length : Int)))) rfl (fun h160 => ?_) (fun h160 => ?_)
  refine EC_seq (EC_reg (vA (.bool true) rfl rfl (EL_nil (thn_n (EC_ret ?_)))))
  refine thn_r (inB_r (thn_r (thn_r (inB_r (thn_r ?_)))))
  refine fin1 Tryz.results3 (show _ = .bool true from rfl) ⟨_, rfl, ?_⟩
  have S161 := S151.dr0
  have S162 := S161.dr0
  have S163 := S162.dr0
  have S164 := S163.dr0
  have S165 := S164.dr0
  exact ⟨I89, (lT (lT le14 le56) le98), rfl, S165⟩
  have hg : a101.record.box.length ≤ 2500 ∧ a101.raw.length ≤ 100 ∧ a101.text.length ≤ 2500 := by simp at h160; omega
  refine EC_skip (thn_n (EC_seq (EC_reg (vl (ptr b138 4) rfl (fP 0 rfl U40 (by kernel_rfl)) (vL v110 rfl rfl (S151.arr 0 rfl) rfl U22 rfl ?_)))))
  refine vA v110 rfl rfl (EL_nil (thn_n (EC_seq (EC_seq (EC_reg ?_)))))
  refine vl (ptr b138 2) rfl (fP 0 rfl U40 (by kernel_rfl)) (vL (.int .i64 a101.keyNo) rfl rfl (S151.arr 0 rfl) rfl U3 rfl (vl (.bool (decide (0 ≤ a101.keyNo))) rfl (r_geq rfl rfl) (vM (.bool (decide (0 ≤ a101.keyNo))) rfl rfl (EL_gite 81 rfl rfl rfl (ptr b138 2) rfl (fun g166 => fP 0 rfl U40 (by kernel_rfl)) (EL_gite 81 rfl rfl rfl (.int .i64 a101.keyNo) rfl (fun g167 => r_loadA (cond_of g167 rfl) (S151.arr 0 rfl) (u := (.int .i64 a101.keyNo)) rfl U3 rfl) ?_)))))
  refine EL_gite 81 rfl rfl rfl (.bool (decide (a101.keyNo < 4))) rfl (fun g168 => r_lss (cond_of g168 rfl) rfl) (vl (.bool ((decide (0 ≤ a101.keyNo)) && (decide (a101.keyNo < 4)))) rfl (r_and rfl rfl rfl) (EL_nil (thn_n ?_)))
  refine EC_post (fun E' w' => ∃ kv : Value, ∃ kk : List UInt8, E' 12 = kv ∧ E' 0 = v0 ∧ E' 5 = p21 ∧ E' 6 = ptr b22 ∧ E' 7 = ptr b29 ∧ E' 9 = tv ∧ E' 11 = ptr b138 ∧ E' 47 = v1 ∧ E' 48 = .int .i64 (ops.length : Int) ∧ E' 49 = .int .i64 (i : Int) ∧ E' 50 = .bool (decide ((i : Int) < (ops.length : Int))) ∧ E' 51 = ptr (blkOf v1) (offOf v1 + ((i : Int) : Int).toNat * 20) ∧ E' 52 = .agg ((sopRC a101 v110 v113 v120 v126 v129 v135)).toArray ∧ E' 53 = ptr b138 11 ∧ E' 54 = .agg ((entRC a101.entry v126 v129 v135)).toArray ∧ E' 55 = .bool true ∧ E' 56 = .bool false ∧ E' 57 = .bool false ∧ E' 58 = ptr b138 6 ∧ E' 59 = ptr b138 10 ∧ E' 60 = v120 ∧ E' 61 = .int .i64 (a101.record.box.length : Int) ∧ E' 62 = .bool (decide (2500 < (a101.record.box.length : Int))) ∧ E' 63 = .bool (decide (2500 < (a101.record.box.length : Int))) ∧ E' 64 = .bool (decide (2500 < (a101.record.box.length : Int))) ∧ E' 69 = .bool ((decide (2500 < (a101.record.box.length : Int))) || (decide (100 < (a101.raw.length : Int)))) ∧ E' 70 = .bool ((decide (2500 < (a101.record.box.length : Int))) || (decide (100 < (a101.raw.length : Int)))) ∧ E' 75 = .bool (((decide (2500 < (a101.record.box.length : Int))) || (decide (100 < (a101.raw.length : Int)))) || (decide (2500 < (a101.text.length : Int)))) ∧ E' 76 = ptr b138 4 ∧ E' 77 = v110 ∧ E' 78 = ptr b138 2 ∧ E' 79 = .int .i64 a101.keyNo ∧ E' 80 = .bool (decide (0 ≤ a101.keyNo)) ∧ E' 81 = .bool (decide (0 ≤ a101.keyNo)) ∧ E' 85 = .bool ((decide (0 ≤ a101.keyNo)) && (decide (a101.keyNo < 4))) ∧ (kv.oneCell' = true) ∧ (kk.length ≤ 100) ∧ RoB I89 kv kk ∧ Sat w' I89 (Blk b138 40 (sopRC a101 v110 v113 v120 v126 v129 v135) :: OwnX 35 recR tv tl :: Suite p21 L :: RefT (ptr b22) L :: Blk b29 31 vs :: R)) ?_ ?_
  refine EC_cond (t := (decide (0 ≤ a101.keyNo)) && (decide (a101.keyNo < 4))) rfl (fun h169 => ?_) (fun h169 => ?_)
  have hkn : 0 ≤ a101.keyNo ∧ a101.keyNo < 4 := by simpa using h169
  refine EC_reg (vl (ptr b138 2) rfl (fP 0 rfl U40 (by kernel_rfl)) (vL (.int .i64 a101.keyNo) rfl rfl (S151.arr 0 rfl) rfl U3 rfl (vl (ptr b29 (0 + (a101.keyNo : Int).toNat)) rfl (r_indexP (i := a101.keyNo) (by exact e95) rfl (by omega) (by omega) U31 (by kernel_rfl)) ?_)))
  obtain ⟨ku, hku, oku, rku⟩ := hK4.get (n := a101.keyNo) hkn
  refine vl ku rfl (r_loadA rfl (S151.arr 4 rfl) (u := ku) hku U22 rfl) (vA ku rfl rfl (EL_nil (thn_n ?_)))
  exact ⟨ku, (signOf 75 (a101.keyNo + 1)), rfl, (by exact e92), (by exact e93), (by exact e94), (by exact e95), (by exact e91), rfl, (by exact e96), (by exact e97), (by exact e90), rfl, rfl, rfl, rfl, rfl, (Eq.trans (show _ = Value.bool (smallE a101.entry) from rfl) (congrArg Value.bool (show (smallE a101.entry) = true from hsm))), rfl, rfl, rfl, rfl, rfl, rfl, rfl, rfl, rfl, rfl, rfl, rfl, rfl, rfl, rfl, rfl, rfl, rfl, rfl, oku, (by first | omega | (rw [sign_len]; decide)), rku, S151⟩
  refine EC_skip (thn_n ?_)
  exact ⟨v110, a101.raw, rfl, (by exact e92), (by exact e93), (by exact e94), (by exact e95), (by exact e91), rfl, (by exact e96), (by exact e97), (by exact e90), rfl, rfl, rfl, rfl, rfl, (Eq.trans (show _ = Value.bool (smallE a101.entry) from rfl) (congrArg Value.bool (show (smallE a101.entry) = true from hsm))), rfl, rfl, rfl, rfl, rfl, rfl, rfl, rfl, rfl, rfl, rfl, rfl, rfl, rfl, rfl, rfl, rfl, rfl, rfl, o111, (by first | omega | (rw [sign_len]; decide)), (H112.up (lT (lT le14 le56) le98)), S151⟩
  rintro E170 w171 ⟨kv, kk, e172, e173, e174, e175, e176, e177, e178, e179, e180, e181, e182, e183, e184, e185, e186, e187, e188, e189, e190, e191, e192, e193, e194, e195, e196, e197, e198, e199, e200, e201, e202, e203, e204, e205, e206, okv, hkk, H207, S208⟩
  refine thn_n (EC_seq (EC_reg (vl (ptr b138 6) rfl (r_fieldP (o := 0) (s := 5) (by exact e178) U40 rfl (by kernel_rfl) (by decide) rfl) (vl (.agg ((recRC a101.record v120)).toArray) rfl (r_loadR (o := 6) (cs := (recRC a101.record v120)) rfl (range_cut0 (n := 5) 6 (Arr.range (S208.arr 0 rfl)) rfl) U35 rfl (by kernel_rfl)) ?_))))
  refine EL_alloc (z := .agg #[.int .i64 0, .int .i64 0, .int .i64 0, .int .i64 0, .slice none 0 0]) recR0 rfl (by kernel_rfl) rfl ?_
  intro b209 w210 k211 A212 B213 z214
  have S215 := S208.newB B213 A212 k211
  refine sA (recRC a101.record v120) rfl rfl (S215.arr 0 rfl) rfl (by kernel_rfl) (ones_cons rfl (ones_cons rfl (ones_cons rfl (ones_cons rfl (ones_cons o121 (fun _ h => nomatch h)))))) ?_
  intro w216 A217 K218 z219
  have S220 := S215.wr0 (ds := (recRC a101.record v120)) K218 A217
  refine EL_nil (thn_n (EC_seq (EC_seq (EC_reg (vl (ptr b138 1) rfl (fP 0 (by exact e178) U40 (by kernel_rfl)) ?_)))))
  refine vL (.int .i64 a101.ref) rfl rfl (S220.arr 1 rfl) rfl U3 rfl (vl (.bool (decide (0 < a101.ref))) rfl (r_gtr rfl rfl) (vM (.bool (decide (0 < a101.ref))) rfl rfl (EL_gite 95 rfl rfl rfl (ptr b138 1) rfl (fun g221 => fP 0 (by exact e178) U40 (by kernel_rfl)) (EL_gite 95 rfl rfl rfl (.int .i64 a101.ref) rfl (fun g222 => r_loadA (cond_of g222 rfl) (S220.arr 1 rfl) (u := (.int .i64 a101.ref)) rfl U3 rfl) (EL_gite 95 rfl rfl rfl tv rfl (fun g223 => r_move (by exact e177)) ?_)))))
  refine EL_gite 95 rfl rfl rfl (.int .i64 (tl.length : Int)) rfl (fun g224 => r_lenX (cond_of g224 rfl) (OwnX.row S220 2 rfl (by decide)).1 U33) (EL_gite 95 rfl rfl rfl (.bool (decide (a101.ref ≤ (tl.length : Int)))) rfl (fun g225 => r_leq (cond_of g225 rfl) (cond_of g225 rfl)) (vl (.bool ((decide (0 < a101.ref)) && (decide (a101.ref ≤ (tl.length : Int))))) rfl (r_and rfl rfl rfl) (EL_nil (thn_n ?_))))
  refine EC_post (fun E' w' => ∃ r9 : Record, ∃ rv : Value, E' 0 = v0 ∧ E' 5 = p21 ∧ E' 6 = ptr b22 ∧ E' 7 = ptr b29 ∧ E' 9 = tv ∧ E' 11 = ptr b138 ∧ E' 12 = kv ∧ E' 13 = ptr b209 ∧ E' 47 = v1 ∧ E' 48 = .int .i64 (ops.length : Int) ∧ E' 49 = .int .i64 (i : Int) ∧ E' 50 = .bool (decide ((i : Int) < (ops.length : Int))) ∧ E' 51 = ptr (blkOf v1) (offOf v1 + ((i : Int) : Int).toNat * 20) ∧ E' 52 = .agg ((sopRC a101 v110 v113 v120 v126 v129 v135)).toArray ∧ E' 53 = ptr b138 11 ∧ E' 54 = .agg ((entRC a101.entry v126 v129 v135)).toArray ∧ E' 55 = .bool true ∧ E' 56 = .bool false ∧ E' 57 = .bool false ∧ E' 58 = ptr b138 6 ∧ E' 59 = ptr b138 10 ∧ E' 60 = v120 ∧ E' 61 = .int .i64 (a101.record.box.length : Int) ∧ E' 62 = .bool (decide (2500 < (a101.record.box.length : Int))) ∧ E' 63 = .bool (decide (2500 < (a101.record.box.length : Int))) ∧ E' 64 = .bool (decide (2500 < (a101.record.box.length : Int))) ∧ E' 69 = .bool ((decide (2500 < (a101.record.box.length : Int))) || (decide (100 < (a101.raw.length : Int)))) ∧ E' 70 = .bool ((decide (2500 < (a101.record.box.length : Int))) || (decide (100 < (a101.raw.length : Int)))) ∧ E' 75 = .bool (((decide (2500 < (a101.record.box.length : Int))) || (decide (100 < (a101.raw.length : Int)))) || (decide (2500 < (a101.text.length : Int)))) ∧ E' 76 = ptr b138 4 ∧ E' 77 = v110 ∧ E' 78 = ptr b138 2 ∧ E' 79 = .int .i64 a101.keyNo ∧ E' 80 = .bool (decide (0 ≤ a101.keyNo)) ∧ E' 81 = .bool (decide (0 ≤ a101.keyNo)) ∧ E' 85 = .bool ((decide (0 ≤ a101.keyNo)) && (decide (a101.keyNo < 4))) ∧ E' 90 = ptr b138 6 ∧ E' 91 = .agg ((recRC a101.record v120)).toArray ∧ E' 92 = ptr b138 1 ∧ E' 93 = .int .i64 a101.ref ∧ E' 94 = .bool (decide (0 < a101.ref)) ∧ E' 95 = .bool (decide (0 < a101.ref)) ∧ E' 101 = .bool ((decide (0 < a101.ref)) && (decide (a101.ref ≤ (tl.length : Int)))) ∧ (rv.oneCell' = true) ∧ (i64R r9) ∧ RoB I89 rv r9.box ∧ Sat w' I89 (Blk b209 35 [.int .i64 (r9.coll), .int .i64 (r9.epoch), .int .i64 (r9.writer), .int .i64 (r9.count), rv] :: Blk b138 40 (sopRC a101 v110 v113 v120 v126 v129 v135) :: OwnX 35 recR tv tl :: Suite p21 L :: RefT (ptr b22) L :: Blk b29 31 vs :: R)) ?_ ?_
  refine EC_cond (t := (decide (0 < a101.ref)) && (decide (a101.ref ≤ (tl.length : Int)))) rfl (fun h226 => ?_) (fun h226 => ?_)
  simp only [Bool.and_eq_true, Bool.or_eq_true, Bool.not_eq_true', Bool.not_eq_false', decide_eq_true_eq, decide_eq_false_iff_not, Bool.and_eq_false_iff, Bool.or_eq_false_iff, Bool.not_eq_true, Bool.not_eq_false, bne_iff_ne, beq_iff_eq, beq_eq_false_iff_ne] at h226
  refine EC_tail 8 (by kernel_rfl) (by kernel_rfl) ?_
  intro w227 B228 z229
  have S230 := S220.below B228
  refine ES_val tv rfl (r_move (by exact e177)) ?_
  refine ES_val (ptr b138 1) rfl (fP 0 (by exact e178) U40 (by kernel_rfl)) ?_
  refine ES_val (.int .i64 a101.ref) rfl (r_loadA rfl (S230.arr 1 rfl) (u := (.int .i64 a101.ref)) rfl U3 rfl) ?_
  refine ES_int (a101.ref - 1) rfl (r_subi rfl rfl (by omega)) ?_
  intro x231 hx231
  refine ES_val (ptr (blkOf tv) (offOf tv + (x231 : Int).toNat * 5)) rfl (r_indexX rfl (OwnX.row S230 2 rfl (by decide)).1 rfl (by omega) (by first | omega | (simp; omega) | simp) U33 (by kernel_rfl)) ?_
  obtain ⟨a232, ha233⟩ := get_some (l := tl) (j := (x231 : Int).toNat) (by first | omega | (simp; omega) | simp)
  have hsr := hTl _ (List.mem_of_getElem? ha233)
  obtain ⟨hq1, hq2, hq3, hq4, hq5⟩ := hsr
  obtain ⟨cs234, hc235, he236⟩ := (OwnX.row S230 2 rfl (by decide)).2 _ _ ha233
  obtain ⟨v241, rfl, r237, r238, r239, r240, ⟨o242, H243⟩⟩ := hc235
  refine ES_val (.agg ((recRC a232 v241)).toArray) rfl (r_loadR (cs := (recRC a232 v241)) rfl he236 U35 rfl (by kernel_rfl)) ?_
  refine ES_val (ptr b138 3) rfl (fP 0 (by exact e178) U40 (by kernel_rfl)) ?_
  refine ES_val (.int .i64 a101.turn) rfl (r_loadA rfl (S230.arr 1 rfl) (u := (.int .i64 a101.turn)) rfl U3 rfl) ?_
  refine ES_nil ?_
  refine eR rfl F9 rfl (turned_c (recRC a232 v241) a232 a101.turn I89 _ _ S230 ⟨v241, rfl, (by first | assumption | (dsimp only; omega)), (by first | assumption | (dsimp only; omega)), (by first | assumption | (dsimp only; omega)), (by first | assumption | (dsimp only; omega)), ⟨o242, H243⟩⟩ (by first | assumption | omega | (simp; done) | (simp; omega)) (by first | assumption | omega | (simp; done) | (simp; omega)) (by first | assumption | omega | (simp; done) | (simp; omega)) (by first | assumption | omega | (simp; done) | (simp; omega))) ?_
  rintro _ w244 ⟨cs246, rfl, h247, S245⟩
  obtain ⟨v252, rfl, r248, r249, r250, r251, ⟨o253, H254⟩⟩ := h247
  have hsr0 : smallR a232 := ⟨hq1, hq2, hq3, hq4, hq5⟩
  refine sA (recRC (turnR a232 a101.turn) v252) rfl rfl (S245.arr 0 rfl) rfl (by kernel_rfl) (ones_cons rfl (ones_cons rfl (ones_cons rfl (ones_cons rfl (ones_cons o253 (fun _ h => nomatch h)))))) ?_
  intro w255 A256 K257 z258
  have S259 := S245.wr0 (ds := (recRC (turnR a232 a101.turn) v252)) K257 A256
  refine EL_nil (thn_n ?_)
  exact ⟨(turnR a232 a101.turn), v252, (by exact e173), (by exact e174), (by exact e175), (by exact e176), (by exact e177), (by exact e178), (by exact e172), rfl, (by exact e179), (by exact e180), (by exact e181), (by exact e182), (by exact e183), (by exact e184), (by exact e185), (by exact e186), (by exact e187), (by exact e188), (by exact e189), (by exact e190), (by exact e191), (by exact e192), (by exact e193), (by exact e194), (by exact e195), (by exact e196), (by exact e197), (by exact e198), (by exact e199), (by exact e200), (by exact e201), (by exact e202), (by exact e203), (by exact e204), (by exact e205), (by exact e206), rfl, rfl, rfl, rfl, rfl, rfl, rfl, o253, (hsr0.turn), H254, S259⟩
  simp only [Bool.and_eq_true, Bool.or_eq_true, Bool.not_eq_true', Bool.not_eq_false', decide_eq_true_eq, decide_eq_false_iff_not, Bool.and_eq_false_iff, Bool.or_eq_false_iff, Bool.not_eq_true, Bool.not_eq_false, bne_iff_ne, beq_iff_eq, beq_eq_false_iff_ne] at h226
  refine EC_skip (thn_n ?_)
  exact ⟨a101.record, v120, (by exact e173), (by exact e174), (by exact e175), (by exact e176), (by exact e177), (by exact e178), (by exact e172), rfl, (by exact e179), (by exact e180), (by exact e181), (by exact e182), (by exact e183), (by exact e184), (by exact e185), (by exact e186), (by exact e187), (by exact e188), (by exact e189), (by exact e190), (by exact e191), (by exact e192), (by exact e193), (by exact e194), (by exact e195), (by exact e196), (by exact e197), (by exact e198), (by exact e199), (by exact e200), (by exact e201), (by exact e202), (by exact e203), (by exact e204), (by exact e205), (by exact e206), rfl, rfl, rfl, rfl, rfl, rfl, rfl, o121, ⟨by assumption, by assumption, by assumption, by assumption, by omega⟩, (H122.up (lT (lT le14 le56) le98)), S220⟩
  rintro E260 w261 ⟨r9, rv, e262, e263, e264, e265, e266, e267, e268, e269, e270, e271, e272, e273, e274, e275, e276, e277, e278, e279, e280, e281, e282, e283, e284, e285, e286, e287, e288, e289, e290, e291, e292, e293, e294, e295, e296, e297, e298, e299, e300, e301, e302, e303, e304, orv, hr9, H305, S306⟩
  refine thn_n (EC_seq (EC_seq ?_))
  obtain ⟨hz1, hz2, hz3, hz4, hz5⟩ := hr9
  rcases (by omega : a101.kind = 1 ∨ a101.kind = 2 ∨ a101.kind = 3 ∨ (¬ a101.kind = 1 ∧ ¬ a101.kind = 2 ∧ ¬ a101.kind = 3)) with hkd | hkd | hkd | hkd
  refine EC_reg (vl (ptr b138 0) rfl (fP 0 (by exact e267) U40 (by kernel_rfl)) (vL (.int .i64 a101.kind) rfl rfl (S306.arr 1 rfl) rfl U3 rfl (EL_nil (thn_n ?_))))
  refine EC_post (fun E' w' => ∃ L2 : List Thing, ∃ tv2 : Value, ∃ tl2 : List Record, ∃ J : Gh, E' 9 = tv2 ∧ E' 0 = v0 ∧ E' 5 = p21 ∧ E' 6 = ptr b22 ∧ E' 7 = ptr b29 ∧ E' 11 = ptr b138 ∧ E' 12 = kv ∧ E' 13 = ptr b209 ∧ E' 47 = v1 ∧ E' 48 = .int .i64 (ops.length : Int) ∧ E' 49 = .int .i64 (i : Int) ∧ E' 50 = .bool (decide ((i : Int) < (ops.length : Int))) ∧ E' 51 = ptr (blkOf v1) (offOf v1 + ((i : Int) : Int).toNat * 20) ∧ E' 52 = .agg ((sopRC a101 v110 v113 v120 v126 v129 v135)).toArray ∧ E' 53 = ptr b138 11 ∧ E' 54 = .agg ((entRC a101.entry v126 v129 v135)).toArray ∧ E' 55 = .bool true ∧ E' 56 = .bool false ∧ E' 57 = .bool false ∧ E' 58 = ptr b138 6 ∧ E' 59 = ptr b138 10 ∧ E' 60 = v120 ∧ E' 61 = .int .i64 (a101.record.box.length : Int) ∧ E' 62 = .bool (decide (2500 < (a101.record.box.length : Int))) ∧ E' 63 = .bool (decide (2500 < (a101.record.box.length : Int))) ∧ E' 64 = .bool (decide (2500 < (a101.record.box.length : Int))) ∧ E' 69 = .bool ((decide (2500 < (a101.record.box.length : Int))) || (decide (100 < (a101.raw.length : Int)))) ∧ E' 70 = .bool ((decide (2500 < (a101.record.box.length : Int))) || (decide (100 < (a101.raw.length : Int)))) ∧ E' 75 = .bool (((decide (2500 < (a101.record.box.length : Int))) || (decide (100 < (a101.raw.length : Int)))) || (decide (2500 < (a101.text.length : Int)))) ∧ E' 76 = ptr b138 4 ∧ E' 77 = v110 ∧ E' 78 = ptr b138 2 ∧ E' 79 = .int .i64 a101.keyNo ∧ E' 80 = .bool (decide (0 ≤ a101.keyNo)) ∧ E' 81 = .bool (decide (0 ≤ a101.keyNo)) ∧ E' 85 = .bool ((decide (0 ≤ a101.keyNo)) && (decide (a101.keyNo < 4))) ∧ E' 90 = ptr b138 6 ∧ E' 91 = .agg ((recRC a101.record v120)).toArray ∧ E' 92 = ptr b138 1 ∧ E' 93 = .int .i64 a101.ref ∧ E' 94 = .bool (decide (0 < a101.ref)) ∧ E' 95 = .bool (decide (0 < a101.ref)) ∧ E' 101 = .bool ((decide (0 < a101.ref)) && (decide (a101.ref ≤ (tl.length : Int)))) ∧ E' 111 = ptr b138 0 ∧ E' 112 = .int .i64 a101.kind ∧ (Plain L2) ∧ (L2.length ≤ L.length + 3) ∧ (Texts 10000 L2) ∧ (∀ x ∈ tl2, smallR x) ∧ (tl2.length ≤ tl.length + 1) ∧ Gh.le I89 J ∧ Sat w' J (OwnX 35 recR tv2 tl2 :: Suite p21 L2 :: RefT (ptr b22) L2 :: Blk b138 40 (sopRC a101 v110 v113 v120 v126 v129 v135) :: Blk b29 31 vs :: R)) ?_ ?_
  refine EC_block (EC_seq (EC_reg (vl (.bool true) rfl (r_dec (show (decide (a101.kind = 1)) = true from by rw [decide_eq_true_eq]; omega) (r_eql rfl rfl)) (vA (.bool true) rfl rfl (EL_nil ?_)))))
  refine thn_n ?_
  refine EC_cond_true rfl ?_
  refine EC_seq (EC_reg (vM p21 rfl e263 (vM v0 rfl e262 (vM kv rfl e268 (vl (.agg ([.int .i64 (r9.coll), .int .i64 (r9.epoch), .int .i64 (r9.writer), .int .i64 (r9.count), rv]).toArray) rfl (r_loadAll (by exact e269) (S306.arr 0 rfl) U35 rfl (by kernel_rfl)) ?_)))))
  refine vl (ptr b138 11) rfl (r_fieldP (o := 0) (s := 9) (by exact e267) U40 rfl (by kernel_rfl) (by decide) rfl) (vl (.agg ((entRC a101.entry v126 v129 v135)).toArray) rfl (r_loadR (o := 11) (cs := (entRC a101.entry v126 v129 v135)) rfl (range_cut0 (n := 9) 11 (Arr.range (S306.arr 1 rfl)) rfl) U38 rfl (by kernel_rfl)) ?_)
  have S307 := S306.fr3
  refine eR rfl F10 rfl (RSeal_c p21 L v0 secret kv kk [.int .i64 (r9.coll), .int .i64 (r9.epoch), .int .i64 (r9.writer), .int .i64 (r9.count), rv] r9 (entRC a101.entry v126 v129 v135) a101.entry I89 _ _ S307 (Q0.up (lT (lT le14 le56) le98)) H207 ⟨rv, rfl, (by first | assumption | (dsimp only; omega)), (by first | assumption | (dsimp only; omega)), (by first | assumption | (dsimp only; omega)), (by first | assumption | (dsimp only; omega)), ⟨orv, H305⟩⟩ ⟨v126, v129, v135, rfl, (by first | assumption | (dsimp only; omega)), (by first | assumption | (dsimp only; omega)), (by first | assumption | (dsimp only; omega)), ⟨o127, (H128.up (lT (lT le14 le56) le98))⟩, ⟨o130, (H131.up (lT (lT le14 le56) le98))⟩, (by first | assumption | (dsimp only; omega)), (by first | assumption | (dsimp only; omega)), (by first | assumption | (dsimp only; omega)), ⟨o136, (H137.up (lT (lT le14 le56) le98))⟩⟩ (by omega) (by omega)) ?_
  rintro _ w308 ⟨cs310, I311, le312, rfl, h313, S309⟩
  obtain ⟨x9, hnx9⟩ : ∃ x : Record, x = (sealRR L secret kk r9 a101.entry) := ⟨_, rfl⟩
  rw [show (sealRR L secret kk r9 a101.entry) = x9 from hnx9.symm] at h313
  obtain ⟨v318, rfl, r314, r315, r316, r317, ⟨o319, H320⟩⟩ := h313
  refine vM (.tuple #[.agg ((recRC x9 v318)).toArray, .int .i64 (sealRE kk r9 a101.entry)]) rfl rfl (vX (.agg ((recRC x9 v318)).toArray) rfl rfl rfl (vX (.int .i64 (sealRE kk r9 a101.entry)) rfl rfl rfl ?_))
  refine EL_alloc (z := .agg #[.int .i64 0, .int .i64 0, .int .i64 0, .int .i64 0, .slice none 0 0]) recR0 rfl (by kernel_rfl) rfl ?_
  intro b321 w322 k323 A324 B325 z326
  have S327 := S309.newB B325 A324 k323
  refine sA (recRC x9 v318) rfl rfl (S327.arr 0 rfl) rfl (by kernel_rfl) (ones_cons rfl (ones_cons rfl (ones_cons rfl (ones_cons rfl (ones_cons o319 (fun _ h => nomatch h)))))) ?_
  intro w328 A329 K330 z331
  have S332 := S327.wr0 (ds := (recRC x9 v318)) K330 A329
  refine vA (.int .i64 (sealRE kk r9 a101.entry)) rfl rfl (EL_nil (thn_n ?_))
  refine EC_cut (fun E' w' => ∃ v28o6_6 : Value, ∃ v28o6_8 : Value, ∃ v28o6_13 : Value, ∃ y9 : Record, ∃ v28o7_7 : Value, ∃ b28o11_1 : Nat, ∃ J : Gh, E' 0 = v0 ∧ E' 5 = p21 ∧ E' 6 = ptr b22 ∧ E' 7 = ptr b29 ∧ E' 9 = tv ∧ E' 11 = ptr b138 ∧ E' 12 = kv ∧ E' 13 = ptr b209 ∧ E' 14 = ptr b321 ∧ E' 15 = .int .i64 (sealRE kk r9 a101.entry) ∧ E' 16 = ptr b28o11_1 ∧ E' 17 = .int .i64 (sealRE kk r9 a101.entry) ∧ E' 47 = v1 ∧ E' 48 = .int .i64 (ops.length : Int) ∧ E' 49 = .int .i64 (i : Int) ∧ E' 50 = .bool (decide ((i : Int) < (ops.length : Int))) ∧ E' 51 = ptr (blkOf v1) (offOf v1 + ((i : Int) : Int).toNat * 20) ∧ E' 52 = .agg ((sopRC a101 v110 v113 v120 v126 v129 v135)).toArray ∧ E' 53 = ptr b138 11 ∧ E' 54 = .agg ((entRC a101.entry v126 v129 v135)).toArray ∧ E' 55 = .bool true ∧ E' 56 = .bool false ∧ E' 57 = .bool false ∧ E' 58 = ptr b138 6 ∧ E' 59 = ptr b138 10 ∧ E' 60 = v120 ∧ E' 61 = .int .i64 (a101.record.box.length : Int) ∧ E' 62 = .bool (decide (2500 < (a101.record.box.length : Int))) ∧ E' 63 = .bool (decide (2500 < (a101.record.box.length : Int))) ∧ E' 64 = .bool (decide (2500 < (a101.record.box.length : Int))) ∧ E' 69 = .bool ((decide (2500 < (a101.record.box.length : Int))) || (decide (100 < (a101.raw.length : Int)))) ∧ E' 70 = .bool ((decide (2500 < (a101.record.box.length : Int))) || (decide (100 < (a101.raw.length : Int)))) ∧ E' 75 = .bool (((decide (2500 < (a101.record.box.length : Int))) || (decide (100 < (a101.raw.length : Int)))) || (decide (2500 < (a101.text.length : Int)))) ∧ E' 76 = ptr b138 4 ∧ E' 77 = v110 ∧ E' 78 = ptr b138 2 ∧ E' 79 = .int .i64 a101.keyNo ∧ E' 80 = .bool (decide (0 ≤ a101.keyNo)) ∧ E' 81 = .bool (decide (0 ≤ a101.keyNo)) ∧ E' 85 = .bool ((decide (0 ≤ a101.keyNo)) && (decide (a101.keyNo < 4))) ∧ E' 90 = ptr b138 6 ∧ E' 91 = .agg ((recRC a101.record v120)).toArray ∧ E' 92 = ptr b138 1 ∧ E' 93 = .int .i64 a101.ref ∧ E' 94 = .bool (decide (0 < a101.ref)) ∧ E' 95 = .bool (decide (0 < a101.ref)) ∧ E' 101 = .bool ((decide (0 < a101.ref)) && (decide (a101.ref ≤ (tl.length : Int)))) ∧ E' 111 = ptr b138 0 ∧ E' 112 = .int .i64 a101.kind ∧ E' 113 = .bool true ∧ E' 114 = .bool true ∧ E' 115 = .tuple #[.agg ((recRC x9 v318)).toArray, .int .i64 (sealRE kk r9 a101.entry)] ∧ E' 116 = p21 ∧ E' 117 = v0 ∧ E' 118 = kv ∧ E' 119 = .agg ([.int .i64 (r9.coll), .int .i64 (r9.epoch), .int .i64 (r9.writer), .int .i64 (r9.count), rv]).toArray ∧ E' 120 = ptr b138 11 ∧ E' 121 = .agg ((entRC a101.entry v126 v129 v135)).toArray ∧ E' 122 = .tuple #[.agg ((recRC x9 v318)).toArray, .int .i64 (sealRE kk r9 a101.entry)] ∧ E' 123 = .agg ((recRC x9 v318)).toArray ∧ E' 124 = .int .i64 (sealRE kk r9 a101.entry) ∧ E' 125 = .tuple #[.agg ((recRC y9 v28o7_7)).toArray, .int .i64 (sealRE kk r9 a101.entry)] ∧ E' 126 = ptr b22 ∧ E' 127 = v0 ∧ E' 128 = kv ∧ E' 129 = .agg ([.int .i64 (r9.coll), .int .i64 (r9.epoch), .int .i64 (r9.writer), .int .i64 (r9.count), rv]).toArray ∧ E' 130 = ptr b138 11 ∧ E' 131 = .agg ((entRC a101.entry v126 v129 v135)).toArray ∧ E' 132 = .agg ((entRC a101.entry v28o6_6 v28o6_8 v28o6_13)).toArray ∧ E' 133 = .tuple #[.agg ((recRC y9 v28o7_7)).toArray, .int .i64 (sealRE kk r9 a101.entry)] ∧ E' 134 = .agg ((recRC y9 v28o7_7)).toArray ∧ E' 135 = .int .i64 (sealRE kk r9 a101.entry) ∧ (-9223372036854775808 ≤ a101.entry.kind ∧ a101.entry.kind ≤ 9223372036854775807) ∧ (-9223372036854775808 ≤ a101.entry.writer ∧ a101.entry.writer ≤ 9223372036854775807) ∧ (-9223372036854775808 ≤ a101.entry.seq ∧ a101.entry.seq ≤ 9223372036854775807) ∧ (-9223372036854775808 ≤ a101.entry.who ∧ a101.entry.who ≤ 9223372036854775807) ∧ (-9223372036854775808 ≤ a101.entry.rights ∧ a101.entry.rights ≤ 9223372036854775807) ∧ (-9223372036854775808 ≤ a101.entry.epoch ∧ a101.entry.epoch ≤ 9223372036854775807) ∧ (y9 = (sealRR L secret kk r9 a101.entry)) ∧ (-9223372036854775808 ≤ y9.coll ∧ y9.coll ≤ 9223372036854775807) ∧ (-9223372036854775808 ≤ y9.epoch ∧ y9.epoch ≤ 9223372036854775807) ∧ (-9223372036854775808 ≤ y9.writer ∧ y9.writer ≤ 9223372036854775807) ∧ (-9223372036854775808 ≤ y9.count ∧ y9.count ≤ 9223372036854775807) ∧ Gh.le I311 J ∧ RoB J v28o6_6 a101.entry.name ∧ RoB J v28o6_8 a101.entry.value ∧ RoX J v28o6_13 wrapR a101.entry.wraps ∧ RoB J v28o7_7 y9.box ∧ Sat w' J (Blk b28o11_1 46 (recRC y9 v28o7_7) :: RefT (ptr b22) (sealRL L secret kk r9 a101.entry) :: Blk b321 35 (recRC x9 v318) :: Suite p21 (sealRL L secret kk r9 a101.entry) :: Blk b209 35 [.int .i64 (r9.coll), .int .i64 (r9.epoch), .int .i64 (r9.writer), .int .i64 (r9.count), rv] :: Blk b138 40 (sopRC a101 v110 v113 v120 v126 v129 v135) :: OwnX 35 recR tv tl :: Blk b29 31 vs :: R)) ?_ ?_
  refine EC_any 12 (fun w' => Gh.le I311 (gh w')) (fun w' => Arr w' b209 35 [.int .i64 (r9.coll), .int .i64 (r9.epoch), .int .i64 (r9.writer), .int .i64 (r9.count), rv] ∧ Arr w' b138 40 (sopRC a101 v110 v113 v120 v126 v129 v135)) (by kernel_rfl) ?_
  intro w333 B334
  have S335 := S332.below B334
  refine jT 0 rfl (by kernel_rfl) (ptr b22) rfl (fun _ hw ht => r_move (by exact e264)) ⟨S335.le, fun h => ⟨S335.arr 2 rfl, S335.arr 3 rfl⟩⟩ ?_
  refine jT 1 rfl (by kernel_rfl) v0 rfl (fun _ hw ht => r_move (by exact e262)) ⟨S335.le, fun h => ⟨S335.arr 2 rfl, S335.arr 3 rfl⟩⟩ ?_
  refine jT 2 rfl (by kernel_rfl) kv rfl (fun _ hw ht => r_move (by exact e268)) ⟨S335.le, fun h => ⟨S335.arr 2 rfl, S335.arr 3 rfl⟩⟩ ?_
  refine jT 3 rfl (by kernel_rfl) (.agg ([.int .i64 (r9.coll), .int .i64 (r9.epoch), .int .i64 (r9.writer), .int .i64 (r9.count), rv]).toArray) rfl (fun _ hw ht => r_loadAll (by exact e269) ht.1 U35 rfl (by kernel_rfl)) ⟨S335.le, fun h => ⟨S335.arr 2 rfl, S335.arr 3 rfl⟩⟩ ?_
  refine jT 4 rfl (by kernel_rfl) (ptr b138 11) rfl (fun _ hw ht => r_fieldP (o := 0) (s := 9) (by exact e267) U40 rfl (by kernel_rfl) (by decide) rfl) ⟨S335.le, fun h => ⟨S335.arr 2 rfl, S335.arr 3 rfl⟩⟩ ?_
  refine jT 5 rfl (by kernel_rfl) (.agg ((entRC a101.entry v126 v129 v135)).toArray) rfl (fun _ hw ht => r_loadR (o := 11) (cs := (entRC a101.entry v126 v129 v135)) rfl (range_cut0 (n := 9) 11 (Arr.range ht.2) rfl) U38 rfl (by kernel_rfl)) ⟨S335.le, fun h => ⟨S335.arr 2 rfl, S335.arr 3 rfl⟩⟩ ?_
  refine EJ_two 6 11 (by kernel_rfl) ⟨_, rfl, ?_⟩ ⟨_, rfl, ?_⟩
  refine eR rfl F12 rfl (MEntry_c (entRC a101.entry v126 v129 v135) a101.entry I311 _ _ S335 ⟨v126, v129, v135, rfl, (by first | assumption | (dsimp only; omega)), (by first | assumption | (dsimp only; omega)), (by first | assumption | (dsimp only; omega)), ⟨o127, (H128.up (lT (lT (lT le14 le56) le98) le312))⟩, ⟨o130, (H131.up (lT (lT (lT le14 le56) le98) le312))⟩, (by first | assumption | (dsimp only; omega)), (by first | assumption | (dsimp only; omega)), (by first | assumption | (dsimp only; omega)), ⟨o136, (H137.up (lT (lT (lT le14 le56) le98) le312))⟩⟩ (by omega)) ?_
  rintro _ w336 ⟨cs28o6_1, I338, le339, rfl, h28o6_2, S337⟩
  obtain ⟨v28o6_6, v28o6_8, v28o6_13, rfl, r28o6_3, r28o6_4, r28o6_5, ⟨o28o6_7, H340⟩, ⟨o28o6_9, H341⟩, r28o6_10, r28o6_11, r28o6_12, ⟨o28o6_14, H342⟩⟩ := h28o6_2
  refine EL_nil ?_
  refine ⟨rfl, ⟨(lT le339 S337.le), fun h => ⟨S337.arr 2 rfl, S337.arr 3 rfl⟩⟩, ?_⟩
  refine EJ_strong (fun w' => Gh.le I338 (gh w')) _ (fun w' hw => lT le339 hw) (fun w' _ ht => ht) ?_
  refine EJ_two 7 11 (by kernel_rfl) ⟨_, rfl, ?_⟩ ⟨_, rfl, ?_⟩
  have S343 := S337.fr5
  refine eR rfl F11 rfl (Seal15_c (ptr b22) L v0 secret kv kk [.int .i64 (r9.coll), .int .i64 (r9.epoch), .int .i64 (r9.writer), .int .i64 (r9.count), rv] r9 (entRC a101.entry v28o6_6 v28o6_8 v28o6_13) a101.entry I338 _ _ S343 (Q0.up (lT (lT (lT (lT le14 le56) le98) le312) le339)) (H207.up (lT le312 le339)) ⟨rv, rfl, (by first | assumption | (dsimp only; omega)), (by first | assumption | (dsimp only; omega)), (by first | assumption | (dsimp only; omega)), (by first | assumption | (dsimp only; omega)), ⟨orv, (H305.up (lT le312 le339))⟩⟩ ⟨v28o6_6, v28o6_8, v28o6_13, rfl, (by first | assumption | (dsimp only; omega)), (by first | assumption | (dsimp only; omega)), (by first | assumption | (dsimp only; omega)), ⟨o28o6_7, H340⟩, ⟨o28o6_9, H341⟩, (by first | assumption | (dsimp only; omega)), (by first | assumption | (dsimp only; omega)), (by first | assumption | (dsimp only; omega)), ⟨o28o6_14, H342⟩⟩ (by omega) hPl (by omega)) ?_
  rintro _ w344 ⟨cs28o7_1, I346, le347, rfl, h28o7_2, S345⟩
  obtain ⟨y9, hny9⟩ : ∃ x : Record, x = (sealRR L secret kk r9 a101.entry) := ⟨_, rfl⟩
  rw [show (sealRR L secret kk r9 a101.entry) = y9 from hny9.symm] at h28o7_2
  obtain ⟨v28o7_7, rfl, r28o7_3, r28o7_4, r28o7_5, r28o7_6, ⟨o28o7_8, H348⟩⟩ := h28o7_2
  refine EL_nil ?_
  refine ⟨rfl, ⟨(lT le347 S345.le), fun h => ⟨S345.arr 3 rfl, S345.arr 4 rfl⟩⟩, ?_⟩
  refine EJ_strong (fun w' => Gh.le I346 (gh w')) _ (fun w' hw => lT le347 hw) (fun w' _ ht => ht) ?_
  refine jT 8 rfl (by kernel_rfl) (.tuple #[.agg ((recRC y9 v28o7_7)).toArray, .int .i64 (sealRE kk r9 a101.entry)]) rfl (fun _ hw ht => r_move rfl) ⟨S345.le, fun h => ⟨S345.arr 3 rfl, S345.arr 4 rfl⟩⟩ ?_
  refine jT 9 rfl (by kernel_rfl) (.agg ((recRC y9 v28o7_7)).toArray) rfl (fun _ hw ht => r_extract rfl rfl) ⟨S345.le, fun h => ⟨S345.arr 3 rfl, S345.arr 4 rfl⟩⟩ ?_
  refine jF 10 rfl (by kernel_rfl) (.int .i64 (sealRE kk r9 a101.entry)) rfl (fun _ hw => r_extract rfl rfl) ⟨S345.le, fun h => ⟨S345.arr 3 rfl, S345.arr 4 rfl⟩⟩ ?_
  refine EJ_one 11 (by kernel_rfl) ⟨_, rfl, ?_⟩
  refine EL_alloc (z := .agg #[.int .i64 0, .int .i64 0, .int .i64 0, .int .i64 0, .slice none 0 0]) recR0 rfl (by kernel_rfl) rfl ?_
  intro b28o11_1 w349 k350 A351 B352 z353
  have S354 := S345.newB B352 A351 k350
  refine EL_nil ?_
  refine ⟨rfl, ⟨S354.le, fun h => ⟨S354.arr 4 rfl, S354.arr 5 rfl⟩⟩, ?_⟩
  refine EJ_one 12 (by kernel_rfl) ⟨_, rfl, ?_⟩
  refine sA (recRC y9 v28o7_7) rfl rfl (S354.arr 0 rfl) rfl (by kernel_rfl) (ones_cons rfl (ones_cons rfl (ones_cons rfl (ones_cons rfl (ones_cons o28o7_8 (fun _ h => nomatch h)))))) ?_
  intro w355 A356 K357 z358
  have S359 := S354.wr0 (ds := (recRC y9 v28o7_7)) K357 A356
  refine EL_nil ?_
  refine ⟨rfl, ⟨S359.le, fun h => by cases h⟩, ?_⟩
  refine jF 13 rfl (by kernel_rfl) (.int .i64 (sealRE kk r9 a101.entry)) rfl (fun _ hw => r_assign rfl) ⟨S359.le, fun h => by cases h⟩ ?_
  refine EJ_done (by kernel_rfl) ?_
  refine thn_n ?_
  exact ⟨v28o6_6, v28o6_8, v28o6_13, y9, v28o7_7, b28o11_1, I346, (by exact e262), (by exact e263), (by exact e264), (by exact e265), (by exact e266), (by exact e267), (by exact e268), (by exact e269), rfl, rfl, rfl, rfl, (by exact e270), (by exact e271), (by exact e272), (by exact e273), (by exact e274), (by exact e275), (by exact e276), (by exact e277), (by exact e278), (by exact e279), (by exact e280), (by exact e281), (by exact e282), (by exact e283), (by exact e284), (by exact e285), (by exact e286), (by exact e287), (by exact e288), (by exact e289), (by exact e290), (by exact e291), (by exact e292), (by exact e293), (by exact e294), (by exact e295), (by exact e296), (by exact e297), (by exact e298), (by exact e299), (by exact e300), (by exact e301), (by exact e302), (by exact e303), (by exact e304), rfl, rfl, rfl, rfl, rfl, rfl, rfl, rfl, rfl, rfl, rfl, rfl, rfl, rfl, rfl, rfl, rfl, rfl, rfl, rfl, rfl, rfl, rfl, rfl, rfl, r28o6_3, r28o6_4, r28o6_5, r28o6_10, r28o6_11, r28o6_12, hny9, r28o7_3, r28o7_4, r28o7_5, r28o7_6, (lT le339 le347), (H340.up le347), (H341.up le347), (H342.up le347), H348, S359⟩
  refine EL_alloc (z := .agg #[.int .i64 0, .int .i64 0, .int .i64 0, .int .i64 0, .slice none 0 0]) recR0 rfl (by kernel_rfl) rfl ?_
  intro b28o11_1 w360 k361 A362 B363 z364
  have S365 := S337.newB B363 A362 k361
  refine EL_nil ?_
  refine ⟨rfl, ⟨S365.le, fun h => ⟨S365.arr 3 rfl, S365.arr 4 rfl⟩⟩, ?_⟩
  refine EJ_one 7 (by kernel_rfl) ⟨_, rfl, ?_⟩
  have S366 := S365.fr6
  refine eR rfl F11 rfl (Seal15_c (ptr b22) L v0 secret kv kk [.int .i64 (r9.coll), .int .i64 (r9.epoch), .int .i64 (r9.writer), .int .i64 (r9.count), rv] r9 (entRC a101.entry v28o6_6 v28o6_8 v28o6_13) a101.entry I338 _ _ S366 (Q0.up (lT (lT (lT (lT le14 le56) le98) le312) le339)) (H207.up (lT le312 le339)) ⟨rv, rfl, (by first | assumption | (dsimp only; omega)), (by first | assumption | (dsimp only; omega)), (by first | assumption | (dsimp only; omega)), (by first | assumption | (dsimp only; omega)), ⟨orv, (H305.up (lT le312 le339))⟩⟩ ⟨v28o6_6, v28o6_8, v28o6_13, rfl, (by first | assumption | (dsimp only; omega)), (by first | assumption | (dsimp only; omega)), (by first | assumption | (dsimp only; omega)), ⟨o28o6_7, H340⟩, ⟨o28o6_9, H341⟩, (by first | assumption | (dsimp only; omega)), (by first | assumption | (dsimp only; omega)), (by first | assumption | (dsimp only; omega)), ⟨o28o6_14, H342⟩⟩ (by omega) hPl (by omega)) ?_
  rintro _ w367 ⟨cs28o7_1, I369, le370, rfl, h28o7_2, S368⟩
  obtain ⟨y9, hny9⟩ : ∃ x : Record, x = (sealRR L secret kk r9 a101.entry) := ⟨_, rfl⟩
  rw [show (sealRR L secret kk r9 a101.entry) = y9 from hny9.symm] at h28o7_2
  obtain ⟨v28o7_7, rfl, r28o7_3, r28o7_4, r28o7_5, r28o7_6, ⟨o28o7_8, H371⟩⟩ := h28o7_2
  refine EL_nil ?_
  refine ⟨rfl, ⟨(lT le370 S368.le), fun h => ⟨S368.arr 4 rfl, S368.arr 5 rfl⟩⟩, ?_⟩
  refine EJ_strong (fun w' => Gh.le I369 (gh w')) _ (fun w' hw => lT le370 hw) (fun w' _ ht => ht) ?_
  refine jT 8 rfl (by kernel_rfl) (.tuple #[.agg ((recRC y9 v28o7_7)).toArray, .int .i64 (sealRE kk r9 a101.entry)]) rfl (fun _ hw ht => r_move rfl) ⟨S368.le, fun h => ⟨S368.arr 4 rfl, S368.arr 5 rfl⟩⟩ ?_
  refine jT 9 rfl (by kernel_rfl) (.agg ((recRC y9 v28o7_7)).toArray) rfl (fun _ hw ht => r_extract rfl rfl) ⟨S368.le, fun h => ⟨S368.arr 4 rfl, S368.arr 5 rfl⟩⟩ ?_
  refine jF 10 rfl (by kernel_rfl) (.int .i64 (sealRE kk r9 a101.entry)) rfl (fun _ hw => r_extract rfl rfl) ⟨S368.le, fun h => ⟨S368.arr 4 rfl, S368.arr 5 rfl⟩⟩ ?_
  refine EJ_one 12 (by kernel_rfl) ⟨_, rfl, ?_⟩
  refine sA (recRC y9 v28o7_7) rfl rfl (S368.arr 1 rfl) rfl (by kernel_rfl) (ones_cons rfl (ones_cons rfl (ones_cons rfl (ones_cons rfl (ones_cons o28o7_8 (fun _ h => nomatch h)))))) ?_
  intro w372 A373 K374 z375
  have S376 := S368.wr1 (ds := (recRC y9 v28o7_7)) K374 A373
  refine EL_nil ?_
  refine ⟨rfl, ⟨S376.le, fun h => by cases h⟩, ?_⟩
  refine jF 13 rfl (by kernel_rfl) (.int .i64 (sealRE kk r9 a101.entry)) rfl (fun _ hw => r_assign rfl) ⟨S376.le, fun h => by cases h⟩ ?_
  refine EJ_done (by kernel_rfl) ?_
  refine thn_n ?_
  have S377 := S376.fr7
  have S378 := S377.fr7
  have S379 := S378.fr7
  have S380 := S379.fr7
  have S381 := S380.fr7
  have S382 := S381.fr7
  have S383 := S382.fr6
  have S384 := S383.fr7
  exact ⟨v28o6_6, v28o6_8, v28o6_13, y9, v28o7_7, b28o11_1, I369, (by exact e262), (by exact e263), (by exact e264), (by exact e265), (by exact e266), (by exact e267), (by exact e268), (by exact e269), rfl, rfl, rfl, rfl, (by exact e270), (by exact e271), (by exact e272), (by exact e273), (by exact e274), (by exact e275), (by exact e276), (by exact e277), (by exact e278), (by exact e279), (by exact e280), (by exact e281), (by exact e282), (by exact e283), (by exact e284), (by exact e285), (by exact e286), (by exact e287), (by exact e288), (by exact e289), (by exact e290), (by exact e291), (by exact e292), (by exact e293), (by exact e294), (by exact e295), (by exact e296), (by exact e297), (by exact e298), (by exact e299), (by exact e300), (by exact e301), (by exact e302), (by exact e303), (by exact e304), rfl, rfl, rfl, rfl, rfl, rfl, rfl, rfl, rfl, rfl, rfl, rfl, rfl, rfl, rfl, rfl, rfl, rfl, rfl, rfl, rfl, rfl, rfl, rfl, rfl, r28o6_3, r28o6_4, r28o6_5, r28o6_10, r28o6_11, r28o6_12, hny9, r28o7_3, r28o7_4, r28o7_5, r28o7_6, (lT le339 le370), (H340.up le370), (H341.up le370), (H342.up le370), H371, S384⟩
  refine EL_alloc (z := .agg #[.int .i64 0, .int .i64 0, .int .i64 0, .int .i64 0, .slice none 0 0]) recR0 rfl (by kernel_rfl) rfl ?_
  intro b28o11_1 w385 k386 A387 B388 z389
  have S390 := S335.newB B388 A387 k386
  refine EL_nil ?_
  refine ⟨rfl, ⟨S390.le, fun h => ⟨S390.arr 3 rfl, S390.arr 4 rfl⟩⟩, ?_⟩
  refine EJ_one 6 (by kernel_rfl) ⟨_, rfl, ?_⟩
  refine eR rfl F12 rfl (MEntry_c (entRC a101.entry v126 v129 v135) a101.entry I311 _ _ S390 ⟨v126, v129, v135, rfl, (by first | assumption | (dsimp only; omega)), (by first | assumption | (dsimp only; omega)), (by first | assumption | (dsimp only; omega)), ⟨o127, (H128.up (lT (lT (lT le14 le56) le98) le312))⟩, ⟨o130, (H131.up (lT (lT (lT le14 le56) le98) le312))⟩, (by first | assumption | (dsimp only; omega)), (by first | assumption | (dsimp only; omega)), (by first | assumption | (dsimp only; omega)), ⟨o136, (H137.up (lT (lT (lT le14 le56) le98) le312))⟩⟩ (by omega)) ?_
  rintro _ w391 ⟨cs28o6_1, I393, le394, rfl, h28o6_2, S392⟩
  obtain ⟨v28o6_6, v28o6_8, v28o6_13, rfl, r28o6_3, r28o6_4, r28o6_5, ⟨o28o6_7, H395⟩, ⟨o28o6_9, H396⟩, r28o6_10, r28o6_11, r28o6_12, ⟨o28o6_14, H397⟩⟩ := h28o6_2
  refine EL_nil ?_
  refine ⟨rfl, ⟨(lT le394 S392.le), fun h => ⟨S392.arr 3 rfl, S392.arr 4 rfl⟩⟩, ?_⟩
  refine EJ_strong (fun w' => Gh.le I393 (gh w')) _ (fun w' hw => lT le394 hw) (fun w' _ ht => ht) ?_
  refine EJ_one 7 (by kernel_rfl) ⟨_, rfl, ?_⟩
  have S398 := S392.fr6
  refine eR rfl F11 rfl (Seal15_c (ptr b22) L v0 secret kv kk [.int .i64 (r9.coll), .int .i64 (r9.epoch), .int .i64 (r9.writer), .int .i64 (r9.count), rv] r9 (entRC a101.entry v28o6_6 v28o6_8 v28o6_13) a101.entry I393 _ _ S398 (Q0.up (lT (lT (lT (lT le14 le56) le98) le312) le394)) (H207.up (lT le312 le394)) ⟨rv, rfl, (by first | assumption | (dsimp only; omega)), (by first | assumption | (dsimp only; omega)), (by first | assumption | (dsimp only; omega)), (by first | assumption | (dsimp only; omega)), ⟨orv, (H305.up (lT le312 le394))⟩⟩ ⟨v28o6_6, v28o6_8, v28o6_13, rfl, (by first | assumption | (dsimp only; omega)), (by first | assumption | (dsimp only; omega)), (by first | assumption | (dsimp only; omega)), ⟨o28o6_7, H395⟩, ⟨o28o6_9, H396⟩, (by first | assumption | (dsimp only; omega)), (by first | assumption | (dsimp only; omega)), (by first | assumption | (dsimp only; omega)), ⟨o28o6_14, H397⟩⟩ (by omega) hPl (by omega)) ?_
  rintro _ w399 ⟨cs28o7_1, I401, le402, rfl, h28o7_2, S400⟩
  obtain ⟨y9, hny9⟩ : ∃ x : Record, x = (sealRR L secret kk r9 a101.entry) := ⟨_, rfl⟩
  rw [show (sealRR L secret kk r9 a101.entry) = y9 from hny9.symm] at h28o7_2
  obtain ⟨v28o7_7, rfl, r28o7_3, r28o7_4, r28o7_5, r28o7_6, ⟨o28o7_8, H403⟩⟩ := h28o7_2
  refine EL_nil ?_
  refine ⟨rfl, ⟨(lT le402 S400.le), fun h => ⟨S400.arr 4 rfl, S400.arr 5 rfl⟩⟩, ?_⟩
  refine EJ_strong (fun w' => Gh.le I401 (gh w')) _ (fun w' hw => lT le402 hw) (fun w' _ ht => ht) ?_
  refine jT 8 rfl (by kernel_rfl) (.tuple #[.agg ((recRC y9 v28o7_7)).toArray, .int .i64 (sealRE kk r9 a101.entry)]) rfl (fun _ hw ht => r_move rfl) ⟨S400.le, fun h => ⟨S400.arr 4 rfl, S400.arr 5 rfl⟩⟩ ?_
  refine jT 9 rfl (by kernel_rfl) (.agg ((recRC y9 v28o7_7)).toArray) rfl (fun _ hw ht => r_extract rfl rfl) ⟨S400.le, fun h => ⟨S400.arr 4 rfl, S400.arr 5 rfl⟩⟩ ?_
  refine jF 10 rfl (by kernel_rfl) (.int .i64 (sealRE kk r9 a101.entry)) rfl (fun _ hw => r_extract rfl rfl) ⟨S400.le, fun h => ⟨S400.arr 4 rfl, S400.arr 5 rfl⟩⟩ ?_
  refine EJ_one 12 (by kernel_rfl) ⟨_, rfl, ?_⟩
  refine sA (recRC y9 v28o7_7) rfl rfl (S400.arr 1 rfl) rfl (by kernel_rfl) (ones_cons rfl (ones_cons rfl (ones_cons rfl (ones_cons rfl (ones_cons o28o7_8 (fun _ h => nomatch h)))))) ?_
  intro w404 A405 K406 z407
  have S408 := S400.wr1 (ds := (recRC y9 v28o7_7)) K406 A405
  refine EL_nil ?_
  refine ⟨rfl, ⟨S408.le, fun h => by cases h⟩, ?_⟩
  refine jF 13 rfl (by kernel_rfl) (.int .i64 (sealRE kk r9 a101.entry)) rfl (fun _ hw => r_assign rfl) ⟨S408.le, fun h => by cases h⟩ ?_
  refine EJ_done (by kernel_rfl) ?_
  refine thn_n ?_
  have S409 := S408.fr7
  have S410 := S409.fr7
  have S411 := S410.fr7
  have S412 := S411.fr7
  have S413 := S412.fr7
  have S414 := S413.fr7
  have S415 := S414.fr6
  have S416 := S415.fr7
  exact ⟨v28o6_6, v28o6_8, v28o6_13, y9, v28o7_7, b28o11_1, I401, (by exact e262), (by exact e263), (by exact e264), (by exact e265), (by exact e266), (by exact e267), (by exact e268), (by exact e269), rfl, rfl, rfl, rfl, (by exact e270), (by exact e271), (by exact e272), (by exact e273), (by exact e274), (by exact e275), (by exact e276), (by exact e277), (by exact e278), (by exact e279), (by exact e280), (by exact e281), (by exact e282), (by exact e283), (by exact e284), (by exact e285), (by exact e286), (by exact e287), (by exact e288), (by exact e289), (by exact e290), (by exact e291), (by exact e292), (by exact e293), (by exact e294), (by exact e295), (by exact e296), (by exact e297), (by exact e298), (by exact e299), (by exact e300), (by exact e301), (by exact e302), (by exact e303), (by exact e304), rfl, rfl, rfl, rfl, rfl, rfl, rfl, rfl, rfl, rfl, rfl, rfl, rfl, rfl, rfl, rfl, rfl, rfl, rfl, rfl, rfl, rfl, rfl, rfl, rfl, r28o6_3, r28o6_4, r28o6_5, r28o6_10, r28o6_11, r28o6_12, hny9, r28o7_3, r28o7_4, r28o7_5, r28o7_6, (lT le394 le402), (H395.up le402), (H396.up le402), (H397.up le402), H403, S416⟩
  rintro E417 w418 ⟨v28o6_6, v28o6_8, v28o6_13, y9, v28o7_7, b28o11_1, I346, e419, e420, e421, e422, e423, e424, e425, e426, e427, e428, e429, e430, e431, e432, e433, e434, e435, e436, e437, e438, e439, e440, e441, e442, e443, e444, e445, e446, e447, e448, e449, e450, e451, e452, e453, e454, e455, e456, e457, e458, e459, e460, e461, e462, e463, e464, e465, e466, e467, e468, e469, e470, e471, e472, e473, e474, e475, e476, e477, e478, e479, e480, e481, e482, e483, e484, e485, e486, e487, e488, e489, e490, r28o6_3, r28o6_4, r28o6_5, r28o6_10, r28o6_11, r28o6_12, hny9, r28o7_3, r28o7_4, r28o7_5, r28o7_6, le491, H492, H493, H494, H495, S496⟩
  refine EC_seq (EC_seq (EC_reg (vM (.int .i64 (sealRE kk r9 a101.entry)) rfl e428 (vM (.int .i64 (sealRE kk r9 a101.entry)) rfl e430 (vl (.bool false) rfl (r_dec (show (decide ((sealRE kk r9 a101.entry) ≠ (sealRE kk r9 a101.entry))) = false from by simp) (r_neq rfl rfl)) ?_)))))
  refine vM (.bool false) rfl rfl (gl  139 rfl rfl rfl rfl (.agg ((recRC x9 v318)).toArray) rfl (r_loadAll (by exact e427) (S496.arr 2 rfl) U35 rfl (by kernel_rfl)) (gl  139 rfl rfl rfl rfl (.agg ((recRC y9 v28o7_7)).toArray) rfl (r_loadAll (by exact e429) (S496.arr 0 rfl) U46 rfl (by kernel_rfl)) ?_))
  refine eG 139 rfl rfl rfl rfl rfl F13 rfl (Same15_c (recRC x9 v318) (recRC y9 v28o7_7) x9 y9 I346 _ _ S496 ⟨v318, rfl, (by first | assumption | (dsimp only; omega)), (by first | assumption | (dsimp only; omega)), (by first | assumption | (dsimp only; omega)), (by first | assumption | (dsimp only; omega)), ⟨o319, (H320.up le491)⟩⟩ ⟨v28o7_7, rfl, (by first | assumption | (dsimp only; omega)), (by first | assumption | (dsimp only; omega)), (by first | assumption | (dsimp only; omega)), (by first | assumption | (dsimp only; omega)), ⟨(row_one (H495 _ S496.le)), H495⟩⟩) ?_
  rintro _ w497 ⟨rfl, S498⟩
  refine gl  139 rfl rfl rfl rfl (.bool false) rfl (r_dec (show (!true) = false from rfl) (r_not (Eq.trans (show _ = Value.bool (decide (x9 = y9)) from rfl) (congrArg Value.bool (show (decide (x9 = y9)) = true from decide_eq_true (hnx9.trans hny9.symm)))))) (vF (.bool false) rfl rfl rfl (EL_nil (thn_n ?_)))
  refine EC_cond_false rfl ?_
  refine EC_skip (thn_n (EC_reg (vM tv rfl e423 (vl (.agg ((recRC x9 v318)).toArray) rfl (r_loadAll (by exact e427) (S498.arr 2 rfl) U35 rfl (by kernel_rfl)) ?_))))
  refine EL_litW (z := #[.int .i64 0, .int .i64 0, .int .i64 0, .int .i64 0, .slice none 0 0]) (cs := ([.int .i64 x9.coll, .int .i64 x9.epoch, .int .i64 x9.writer, .int .i64 x9.count, v318]).toArray) (sz := 5) (l := [(0, .agg ((recRC x9 v318)).toArray)]) rfl U33 (by kernel_rfl) (parts1 rfl) (by kernel_rfl) rfl (by decide) ?_
  intro v499 w500 O501 B502 k503
  have S504 : Sat w500 I346 (OwnX 35 recR v499 [x9] :: Blk b28o11_1 46 (recRC y9 v28o7_7) :: RefT (ptr b22) (sealRL L secret kk r9 a101.entry) :: Blk b321 35 (recRC x9 v318) :: Suite p21 (sealRL L secret kk r9 a101.entry) :: Blk b209 35 [.int .i64 (r9.coll), .int .i64 (r9.epoch), .int .i64 (r9.writer), .int .i64 (r9.count), rv] :: Blk b138 40 (sopRC a101 v110 v113 v120 v126 v129 v135) :: OwnX 35 recR tv tl :: Blk b29 31 vs :: R) := OwnX.cls (xss := [(recRC x9 v318)]) (.cons ⟨v318, rfl, (by first | assumption | (dsimp only; omega)), (by first | assumption | (dsimp only; omega)), (by first | assumption | (dsimp only; omega)), (by first | assumption | (dsimp only; omega)), ⟨o319, (H320.up le491)⟩⟩ .nil) (S498.newO B502 O501)
  have oH511 := (OwnX.one S504 0 rfl (by decide))
  obtain ⟨I508, le509, S510, H511⟩ := S504.fx0 (by decide)
  have S512 := S510.fr6
  refine EL_appX (z := (.agg #[.int .i64 0, .int .i64 0, .int .i64 0, .int .i64 0, .slice none 0 0])) (bytes := 56) rfl U33 (by kernel_rfl) rfl (by decide) rfl rfl S512 H511 (by first | omega | (simp; done) | (simp only [List.length_cons, List.length_nil]; omega) | (rw [List.length_append]; simp only [List.length_cons, List.length_nil]; omega) | (simp; omega)) (by first | omega | (simp; done) | (simp only [List.length_cons, List.length_nil]; omega) | (rw [List.length_append]; simp only [List.length_cons, List.length_nil]; omega) | (simp; omega)) ?_
  intro v505 w506 S507
  refine vA v505 rfl rfl (EL_nil (inB_n (thn_n ?_)))
  have S513 := S507.dr1
  have S514 := S513.dr2
  have S515 := S514.dr3
  have S516 := S515.fr4
  have S517 := S516.fr4
  have S518 := S517.fr3
  have S519 := S518.fr4
  have S520 := S519.fr4
  exact ⟨(sealRL L secret kk r9 a101.entry), v505, (tl ++ [x9]), I508, rfl, (by exact e419), (by exact e420), (by exact e421), (by exact e422), (by exact e424), (by exact e425), (by exact e426), (by exact e431), (by exact e432), (by exact e433), (by exact e434), (by exact e435), (by exact e436), (by exact e437), (by exact e438), (by exact e439), (by exact e440), (by exact e441), (by exact e442), (by exact e443), (by exact e444), (by exact e445), (by exact e446), (by exact e447), (by exact e448), (by exact e449), (by exact e450), (by exact e451), (by exact e452), (by exact e453), (by exact e454), (by exact e455), (by exact e456), (by exact e457), (by exact e458), (by exact e459), (by exact e460), (by exact e461), (by exact e462), (by exact e463), (by exact e464), (by exact e465), (by exact e466), (by exact e467), hPl.sealR, (sealRL_len _ _ _ _ _), (hTx.sealR (by decide)), (small_all hTl (by rw [hnx9]; exact smallR.seal _ _ _ _ _)), (by simp), (lT (lT le312 le491) le509), S520⟩
  rintro E521 w522 ⟨L2, tv2, tl2, I523, e524, e525, e526, e527, e528, e529, e530, e531, e532, e533, e534, e535, e536, e537, e538, e539, e540, e541, e542, e543, e544, e545, e546, e547, e548, e549, e550, e551, e552, e553, e554, e555, e556, e557, e558, e559, e560, e561, e562, e563, e564, e565, e566, e567, e568, hPl2, hLl2, hTx2, hTl2, htl2, le569, S570⟩
  refine thn_n (EC_seq ?_)
  have S571 := S570.fr2
  obtain ⟨lv573, S572⟩ := RefT.at S571
  skip
  refine EC_quietB (by kernel_rfl) (by kernel_rfl) ?_
  refine EQ_val p21 rfl (fun _ hw => r_move (by exact e526)) ?_
  have S574 := S572.fr3
  refine EQ_call (.int .i64 (L2.length : Int)) _ rfl Tryz.func22 rfl nm22 rfl (fun w2 hw => (Count_c p21 L2 _ _ _ (S574.below hw) (by omega)).mono ?_) ?_
  · rintro _ _ ⟨rfl, B575⟩
    exact ⟨rfl, below_full hw hw.size B575⟩
  refine EQ_val (ptr b22) rfl (fun _ hw => r_move (by exact e527)) (EQ_val (ptr b22) rfl (fun _ hw => r_nil rfl) (EQ_val (ptr b22 0) rfl (fun _ hw => fP 0 rfl U30 (by kernel_rfl)) (EQ_val lv573 rfl (fun _ hw => r_loadA rfl ((S574.arr 1 rfl).below hw) (u := lv573) rfl U28 rfl) (EQ_val (.int .i64 (L2.length : Int)) rfl (fun _ hw => r_lenX rfl (XRow.below (OwnX.row S574 2 rfl (by decide)).1 (hp_below hw)) U28) (EQ_val (.bool false) rfl (fun _ hw => r_dec (show (decide ((L2.length : Int) ≠ (L2.length : Int))) = false from by simp) (r_neq rfl rfl)) ?_)))))
  refine EQ_nil ?_
  intro w577 B578
  have S579 := S574.below B578
  refine thn_n ?_
  refine EC_cond_false rfl ?_
  refine EC_skip (inB_n (thn_n (EC_reg ?_)))
  refine EL_int ((i : Int) + 1) rfl (r_addi (by exact e534) rfl (by omega)) ?_
  intro x580 hx580
  refine vM (.int .i64 x580) rfl rfl (EL_nil (thn_n ?_))
  have S581 := S579.fr2
  have S582 := S581.fr2
  have S583 := RefT.cls S582
  have S584 := S583.dr3
  have S585 := S584.fr3
  have S586 := S585.fr1
  have S587 := S586.fr2
  have S588 := S587.fr3
  refine ⟨_, ?_, i + 1, L2, tv2, tl2, I523, rfl, (Eq.trans (show _ = Value.int .i64 x580 from rfl) (congrArg _ (by omega))), (by exact e524), (by exact e525), (by exact e526), (by exact e527), (by exact e528), (by exact e532), (by exact e533), by omega, hPl2, by omega, hTx2, hTl2, by omega, (hK4.up le569), (lT le98 le569), S588⟩
  first | omega | (simp; omega)
  refine EC_reg (vl (ptr b138 0) rfl (fP 0 (by exact e267) U40 (by kernel_rfl)) (vL (.int .i64 a101.kind) rfl rfl (S306.arr 1 rfl) rfl U3 rfl (EL_nil (thn_n ?_))))
  refine EC_post (fun E' w' => ∃ L2 : List Thing, ∃ tv2 : Value, ∃ tl2 : List Record, ∃ J : Gh, E' 9 = tv2 ∧ E' 0 = v0 ∧ E' 5 = p21 ∧ E' 6 = ptr b22 ∧ E' 7 = ptr b29 ∧ E' 11 = ptr b138 ∧ E' 12 = kv ∧ E' 13 = ptr b209 ∧ E' 47 = v1 ∧ E' 48 = .int .i64 (ops.length : Int) ∧ E' 49 = .int .i64 (i : Int) ∧ E' 50 = .bool (decide ((i : Int) < (ops.length : Int))) ∧ E' 51 = ptr (blkOf v1) (offOf v1 + ((i : Int) : Int).toNat * 20) ∧ E' 52 = .agg ((sopRC a101 v110 v113 v120 v126 v129 v135)).toArray ∧ E' 53 = ptr b138 11 ∧ E' 54 = .agg ((entRC a101.entry v126 v129 v135)).toArray ∧ E' 55 = .bool true ∧ E' 56 = .bool false ∧ E' 57 = .bool false ∧ E' 58 = ptr b138 6 ∧ E' 59 = ptr b138 10 ∧ E' 60 = v120 ∧ E' 61 = .int .i64 (a101.record.box.length : Int) ∧ E' 62 = .bool (decide (2500 < (a101.record.box.length : Int))) ∧ E' 63 = .bool (decide (2500 < (a101.record.box.length : Int))) ∧ E' 64 = .bool (decide (2500 < (a101.record.box.length : Int))) ∧ E' 69 = .bool ((decide (2500 < (a101.record.box.length : Int))) || (decide (100 < (a101.raw.length : Int)))) ∧ E' 70 = .bool ((decide (2500 < (a101.record.box.length : Int))) || (decide (100 < (a101.raw.length : Int)))) ∧ E' 75 = .bool (((decide (2500 < (a101.record.box.length : Int))) || (decide (100 < (a101.raw.length : Int)))) || (decide (2500 < (a101.text.length : Int)))) ∧ E' 76 = ptr b138 4 ∧ E' 77 = v110 ∧ E' 78 = ptr b138 2 ∧ E' 79 = .int .i64 a101.keyNo ∧ E' 80 = .bool (decide (0 ≤ a101.keyNo)) ∧ E' 81 = .bool (decide (0 ≤ a101.keyNo)) ∧ E' 85 = .bool ((decide (0 ≤ a101.keyNo)) && (decide (a101.keyNo < 4))) ∧ E' 90 = ptr b138 6 ∧ E' 91 = .agg ((recRC a101.record v120)).toArray ∧ E' 92 = ptr b138 1 ∧ E' 93 = .int .i64 a101.ref ∧ E' 94 = .bool (decide (0 < a101.ref)) ∧ E' 95 = .bool (decide (0 < a101.ref)) ∧ E' 101 = .bool ((decide (0 < a101.ref)) && (decide (a101.ref ≤ (tl.length : Int)))) ∧ E' 111 = ptr b138 0 ∧ E' 112 = .int .i64 a101.kind ∧ (Plain L2) ∧ (L2.length ≤ L.length + 3) ∧ (Texts 10000 L2) ∧ (∀ x ∈ tl2, smallR x) ∧ (tl2.length ≤ tl.length + 1) ∧ Gh.le I89 J ∧ Sat w' J (OwnX 35 recR tv2 tl2 :: Suite p21 L2 :: RefT (ptr b22) L2 :: Blk b138 40 (sopRC a101 v110 v113 v120 v126 v129 v135) :: Blk b29 31 vs :: R)) ?_ ?_
  refine EC_block (EC_seq (EC_reg (vl (.bool false) rfl (r_dec (show (decide (a101.kind = 1)) = false from by rw [decide_eq_false_iff_not]; omega) (r_eql rfl rfl)) (vA (.bool false) rfl rfl (EL_nil ?_)))))
  refine thn_n ?_
  refine EC_cond_false rfl ?_
  refine EC_seq (EC_reg (vl (.bool true) rfl (r_dec (show (decide (a101.kind = 2)) = true from by rw [decide_eq_true_eq]; omega) (r_eql rfl rfl)) (vA (.bool true) rfl rfl (EL_nil (thn_n ?_)))))
  refine EC_cond_true rfl ?_
  refine EC_seq (EC_reg (vM p21 rfl e263 (vM v0 rfl e262 (vM kv rfl e268 (vl (.agg ([.int .i64 (r9.coll), .int .i64 (r9.epoch), .int .i64 (r9.writer), .int .i64 (r9.count), rv]).toArray) rfl (r_loadAll (by exact e269) (S306.arr 0 rfl) U35 rfl (by kernel_rfl)) ?_)))))
  have S589 := S306.fr3
  refine eR rfl F14 rfl (ROpen_c p21 L v0 secret kv kk [.int .i64 (r9.coll), .int .i64 (r9.epoch), .int .i64 (r9.writer), .int .i64 (r9.count), rv] r9 I89 _ _ S589 (Q0.up (lT (lT le14 le56) le98)) H207 ⟨rv, rfl, (by first | assumption | (dsimp only; omega)), (by first | assumption | (dsimp only; omega)), (by first | assumption | (dsimp only; omega)), (by first | assumption | (dsimp only; omega)), ⟨orv, H305⟩⟩ (by omega) (by omega) (hTx.le (by decide))) ?_
  rintro _ w590 ⟨cs592, I593, le594, rfl, h595, S591⟩
  obtain ⟨x9, hnx9⟩ : ∃ x : Entry, x = (openRV L secret kk r9) := ⟨_, rfl⟩
  rw [show (openRV L secret kk r9) = x9 from hnx9.symm] at h595
  obtain ⟨v599, v602, v608, rfl, r596, r597, r598, ⟨o600, H601⟩, ⟨o603, H604⟩, r605, r606, r607, ⟨o609, H610⟩⟩ := h595
  refine vM (.tuple #[.agg ((entRC x9 v599 v602 v608)).toArray, .int .i64 (openRE L secret kk r9)]) rfl rfl (vX (.agg ((entRC x9 v599 v602 v608)).toArray) rfl rfl rfl (vX (.int .i64 (openRE L secret kk r9)) rfl rfl rfl ?_))
  refine EL_alloc (z := .agg #[.int .i64 0, .int .i64 0, .int .i64 0, .slice none 0 0, .slice none 0 0, .int .i64 0, .int .i64 0, .int .i64 0, .slice none 0 0]) entR0 rfl (by kernel_rfl) rfl ?_
  intro b611 w612 k613 A614 B615 z616
  have S617 := S591.newB B615 A614 k613
  refine sA (entRC x9 v599 v602 v608) rfl rfl (S617.arr 0 rfl) rfl (by kernel_rfl) (ones_cons rfl (ones_cons rfl (ones_cons rfl (ones_cons o600 (ones_cons o603 (ones_cons rfl (ones_cons rfl (ones_cons rfl (ones_cons o609 (fun _ h => nomatch h)))))))))) ?_
  intro w618 A619 K620 z621
  have S622 := S617.wr0 (ds := (entRC x9 v599 v602 v608)) K620 A619
  refine vA (.int .i64 (openRE L secret kk r9)) rfl rfl (EL_nil (thn_n (EC_seq (EC_reg (vM (ptr b22) rfl e264 ?_)))))
  refine vM v0 rfl e262 (vM kv rfl e268 (vl (.agg ([.int .i64 (r9.coll), .int .i64 (r9.epoch), .int .i64 (r9.writer), .int .i64 (r9.count), rv]).toArray) rfl (r_loadAll (by exact e269) (S622.arr 2 rfl) U35 rfl (by kernel_rfl)) ?_))
  have S623 := S622.fr5
  refine eR rfl F15 rfl (Open15_c (ptr b22) L v0 secret kv kk [.int .i64 (r9.coll), .int .i64 (r9.epoch), .int .i64 (r9.writer), .int .i64 (r9.count), rv] r9 I593 _ _ S623 (Q0.up (lT (lT (lT le14 le56) le98) le594)) (H207.up le594) ⟨rv, rfl, (by first | assumption | (dsimp only; omega)), (by first | assumption | (dsimp only; omega)), (by first | assumption | (dsimp only; omega)), (by first | assumption | (dsimp only; omega)), ⟨orv, (H305.up le594)⟩⟩ (by omega) hPl (by omega) (hTx.le (by decide))) ?_
  rintro _ w624 ⟨cs626, I627, le628, rfl, h629, S625⟩
  obtain ⟨y9, hny9⟩ : ∃ x : Entry, x = (openRV L secret kk r9) := ⟨_, rfl⟩
  rw [show (openRV L secret kk r9) = y9 from hny9.symm] at h629
  obtain ⟨v633, v636, v642, rfl, r630, r631, r632, ⟨o634, H635⟩, ⟨o637, H638⟩, r639, r640, r641, ⟨o643, H644⟩⟩ := h629
  refine vM (.tuple #[.agg ((entRC y9 v633 v636 v642)).toArray, .int .i64 (openRE L secret kk r9)]) rfl rfl (vX (.agg ((entRC y9 v633 v636 v642)).toArray) rfl rfl rfl (vX (.int .i64 (openRE L secret kk r9)) rfl rfl rfl ?_))
  refine EL_alloc (z := .agg #[.int .i64 0, .int .i64 0, .int .i64 0, .slice none 0 0, .slice none 0 0, .int .i64 0, .int .i64 0, .int .i64 0, .slice none 0 0]) entR0 rfl (by kernel_rfl) rfl ?_
  intro b645 w646 k647 A648 B649 z650
  have S651 := S625.newB B649 A648 k647
  refine sA (entRC y9 v633 v636 v642) rfl rfl (S651.arr 0 rfl) rfl (by kernel_rfl) (ones_cons rfl (ones_cons rfl (ones_cons rfl (ones_cons o634 (ones_cons o637 (ones_cons rfl (ones_cons rfl (ones_cons rfl (ones_cons o643 (fun _ h => nomatch h)))))))))) ?_
  intro w652 A653 K654 z655
  have S656 := S651.wr0 (ds := (entRC y9 v633 v636 v642)) K654 A653
  refine vA (.int .i64 (openRE L secret kk r9)) rfl rfl (EL_nil (thn_n (EC_seq ?_)))
  refine EC_any 7 (fun w' => Gh.le I627 (gh w')) (fun w' => Arr w' b611 38 (entRC x9 v599 v602 v608) ∧ Arr w' b645 51 (entRC y9 v633 v636 v642)) (by kernel_rfl) ?_
  intro w657 B658
  have S659 := S656.below B658
  refine jT 0 rfl (by kernel_rfl) (.int .i64 (openRE L secret kk r9)) rfl (fun _ hw ht => r_move rfl) ⟨S659.le, fun h => ⟨S659.arr 2 rfl, S659.arr 0 rfl⟩⟩ ?_
  refine jT 1 rfl (by kernel_rfl) (.int .i64 (openRE L secret kk r9)) rfl (fun _ hw ht => r_move rfl) ⟨S659.le, fun h => ⟨S659.arr 2 rfl, S659.arr 0 rfl⟩⟩ ?_
  refine jT 2 rfl (by kernel_rfl) (.bool false) rfl (fun _ hw ht => r_dec (show (decide ((openRE L secret kk r9) ≠ (openRE L secret kk r9))) = false from by simp) (r_neq rfl rfl)) ⟨S659.le, fun h => ⟨S659.arr 2 rfl, S659.arr 0 rfl⟩⟩ ?_
  refine jT 3 rfl (by kernel_rfl) (.bool false) rfl (fun _ hw ht => r_move rfl) ⟨S659.le, fun h => ⟨S659.arr 2 rfl, S659.arr 0 rfl⟩⟩ ?_
  refine jG 4 rfl (by kernel_rfl) 170 rfl rfl rfl rfl (.agg ((entRC x9 v599 v602 v608)).toArray) rfl (fun _ hw ht => r_loadAll rfl ht.1 U38 rfl (by kernel_rfl)) ⟨S659.le, fun h => ⟨S659.arr 2 rfl, S659.arr 0 rfl⟩⟩ ?_
  refine jG 6 rfl (by kernel_rfl) 170 rfl rfl rfl rfl (.agg ((entRC y9 v633 v636 v642)).toArray) rfl (fun _ hw ht => r_loadAll rfl ht.2 U51 rfl (by kernel_rfl)) ⟨S659.le, fun h => ⟨S659.arr 2 rfl, S659.arr 0 rfl⟩⟩ ?_
  refine EJ_one 5 (by kernel_rfl) ⟨_, rfl, ?_⟩
  refine eG 170 rfl rfl rfl rfl rfl F12 rfl (MEntry_c (entRC x9 v599 v602 v608) x9 I627 _ _ S659 ⟨v599, v602, v608, rfl, (by first | assumption | (dsimp only; omega)), (by first | assumption | (dsimp only; omega)), (by first | assumption | (dsimp only; omega)), ⟨o600, (H601.up le628)⟩, ⟨o603, (H604.up le628)⟩, (by first | assumption | (dsimp only; omega)), (by first | assumption | (dsimp only; omega)), (by first | assumption | (dsimp only; omega)), ⟨o609, (H610.up le628)⟩⟩ (by rw [hnx9]; exact openRV_wraps _ _ _ _)) ?_
  rintro _ w660 ⟨cs662, I663, le664, rfl, h665, S661⟩
  obtain ⟨v669, v672, v678, rfl, r666, r667, r668, ⟨o670, H671⟩, ⟨o673, H674⟩, r675, r676, r677, ⟨o679, H680⟩⟩ := h665
  refine EL_nil ?_
  refine ⟨rfl, ⟨(lT le664 S661.le), fun h => ⟨S661.arr 2 rfl, S661.arr 0 rfl⟩⟩, ?_⟩
  refine EJ_strong (fun w' => Gh.le I663 (gh w')) _ (fun w' hw => lT le664 hw) (fun w' _ ht => ht) ?_
  refine EJ_one 7 (by kernel_rfl) ⟨_, rfl, ?_⟩
  refine eG 170 rfl rfl rfl rfl rfl F16 rfl (Same9_c (entRC x9 v669 v672 v678) (entRC y9 v633 v636 v642) x9 y9 I663 _ _ S661 ⟨v669, v672, v678, rfl, (by first | assumption | (dsimp only; omega)), (by first | assumption | (dsimp only; omega)), (by first | assumption | (dsimp only; omega)), ⟨o670, H671⟩, ⟨o673, H674⟩, (by first | assumption | (dsimp only; omega)), (by first | assumption | (dsimp only; omega)), (by first | assumption | (dsimp only; omega)), ⟨o679, H680⟩⟩ ⟨v633, v636, v642, rfl, (by first | assumption | (dsimp only; omega)), (by first | assumption | (dsimp only; omega)), (by first | assumption | (dsimp only; omega)), ⟨o634, (H635.up le664)⟩, ⟨o637, (H638.up le664)⟩, (by first | assumption | (dsimp only; omega)), (by first | assumption | (dsimp only; omega)), (by first | assumption | (dsimp only; omega)), ⟨o643, (H644.up le664)⟩⟩) ?_
  rintro _ w681 ⟨rfl, S682⟩
  refine EL_nil ?_
  refine ⟨rfl, ⟨S682.le, fun h => by cases h⟩, ?_⟩
  refine EJ_gfloat 8 rfl (by kernel_rfl) (by kernel_rfl) (by kernel_rfl) rfl 170 rfl rfl rfl rfl (.bool false) rfl (fun _ hw => r_dec (show (!true) = false from rfl) (r_not (Eq.trans (show _ = Value.bool (decide (x9 = y9)) from rfl) (congrArg Value.bool (show (decide (x9 = y9)) = true from decide_eq_true (hnx9.trans hny9.symm)))))) ⟨S682.le, fun h => by cases h⟩ ?_
  refine jF 9 rfl (by kernel_rfl) (.bool false) rfl (fun _ hw => r_pickF rfl rfl) ⟨S682.le, fun h => by cases h⟩ ?_
  refine EJ_done (by kernel_rfl) ?_
  refine thn_n ?_
  refine EC_cond_false rfl ?_
  refine EC_skip (inB_n (thn_n ?_))
  have S683 := S682.dr0
  have S684 := S683.dr1
  have S685 := S684.dr2
  have S686 := S685.fr4
  have S687 := S686.fr3
  have S688 := S687.fr2
  have S689 := S688.fr3
  have S690 := S689.fr4
  exact ⟨(openRL L secret kk r9), tv, tl, I663, (by exact e266), (by exact e262), (by exact e263), (by exact e264), (by exact e265), (by exact e267), (by exact e268), (by exact e269), (by exact e270), (by exact e271), (by exact e272), (by exact e273), (by exact e274), (by exact e275), (by exact e276), (by exact e277), (by exact e278), (by exact e279), (by exact e280), (by exact e281), (by exact e282), (by exact e283), (by exact e284), (by exact e285), (by exact e286), (by exact e287), (by exact e288), (by exact e289), (by exact e290), (by exact e291), (by exact e292), (by exact e293), (by exact e294), (by exact e295), (by exact e296), (by exact e297), (by exact e298), (by exact e299), (by exact e300), (by exact e301), (by exact e302), (by exact e303), (by exact e304), rfl, rfl, hPl.openR, (Nat.le_trans (openRL_len _ _ _ _) (by omega)), (hTx.openR (by decide)), hTl, (by omega), (lT (lT le594 le628) le664), S690⟩
  rintro E691 w692 ⟨L2, tv2, tl2, I693, e694, e695, e696, e697, e698, e699, e700, e701, e702, e703, e704, e705, e706, e707, e708, e709, e710, e711, e712, e713, e714, e715, e716, e717, e718, e719, e720, e721, e722, e723, e724, e725, e726, e727, e728, e729, e730, e731, e732, e733, e734, e735, e736, e737, e738, hPl2, hLl2, hTx2, hTl2, htl2, le739, S740⟩
  refine thn_n (EC_seq ?_)
  have S741 := S740.fr2
  obtain ⟨lv743, S742⟩ := RefT.at S741
  skip
  refine EC_quietB (by kernel_rfl) (by kernel_rfl) ?_
  refine EQ_val p21 rfl (fun _ hw => r_move (by exact e696)) ?_
  have S744 := S742.fr3
  refine EQ_call (.int .i64 (L2.length : Int)) _ rfl Tryz.func22 rfl nm22 rfl (fun w2 hw => (Count_c p21 L2 _ _ _ (S744.below hw) (by omega)).mono ?_) ?_
  · rintro _ _ ⟨rfl, B745⟩
    exact ⟨rfl, below_full hw hw.size B745⟩
  refine EQ_val (ptr b22) rfl (fun _ hw => r_move (by exact e697)) (EQ_val (ptr b22) rfl (fun _ hw => r_nil rfl) (EQ_val (ptr b22 0) rfl (fun _ hw => fP 0 rfl U30 (by kernel_rfl)) (EQ_val lv743 rfl (fun _ hw => r_loadA rfl ((S744.arr 1 rfl).below hw) (u := lv743) rfl U28 rfl) (EQ_val (.int .i64 (L2.length : Int)) rfl (fun _ hw => r_lenX rfl (XRow.below (OwnX.row S744 2 rfl (by decide)).1 (hp_below hw)) U28) (EQ_val (.bool false) rfl (fun _ hw => r_dec (show (decide ((L2.length : Int) ≠ (L2.length : Int))) = false from by simp) (r_neq rfl rfl)) ?_)))))
  refine EQ_nil ?_
  intro w747 B748
  have S749 := S744.below B748
  refine thn_n ?_
  refine EC_cond_false rfl ?_
  refine EC_skip (inB_n (thn_n (EC_reg ?_)))
  refine EL_int ((i : Int) + 1) rfl (r_addi (by exact e704) rfl (by omega)) ?_
  intro x750 hx750
  refine vM (.int .i64 x750) rfl rfl (EL_nil (thn_n ?_))
  have S751 := S749.fr2
  have S752 := S751.fr2
  have S753 := RefT.cls S752
  have S754 := S753.dr3
  have S755 := S754.fr3
  have S756 := S755.fr1
  have S757 := S756.fr2
  have S758 := S757.fr3
  refine ⟨_, ?_, i + 1, L2, tv2, tl2, I693, rfl, (Eq.trans (show _ = Value.int .i64 x750 from rfl) (congrArg _ (by omega))), (by exact e694), (by exact e695), (by exact e696), (by exact e697), (by exact e698), (by exact e702), (by exact e703), by omega, hPl2, by omega, hTx2, hTl2, by omega, (hK4.up le739), (lT le98 le739), S758⟩
  first | omega | (simp; omega)
  refine EC_reg (vl (ptr b138 0) rfl (fP 0 (by exact e267) U40 (by kernel_rfl)) (vL (.int .i64 a101.kind) rfl rfl (S306.arr 1 rfl) rfl U3 rfl (EL_nil (thn_n ?_))))
  refine EC_post (fun E' w' => ∃ L2 : List Thing, ∃ tv2 : Value, ∃ tl2 : List Record, ∃ J : Gh, E' 9 = tv2 ∧ E' 0 = v0 ∧ E' 5 = p21 ∧ E' 6 = ptr b22 ∧ E' 7 = ptr b29 ∧ E' 11 = ptr b138 ∧ E' 12 = kv ∧ E' 13 = ptr b209 ∧ E' 47 = v1 ∧ E' 48 = .int .i64 (ops.length : Int) ∧ E' 49 = .int .i64 (i : Int) ∧ E' 50 = .bool (decide ((i : Int) < (ops.length : Int))) ∧ E' 51 = ptr (blkOf v1) (offOf v1 + ((i : Int) : Int).toNat * 20) ∧ E' 52 = .agg ((sopRC a101 v110 v113 v120 v126 v129 v135)).toArray ∧ E' 53 = ptr b138 11 ∧ E' 54 = .agg ((entRC a101.entry v126 v129 v135)).toArray ∧ E' 55 = .bool true ∧ E' 56 = .bool false ∧ E' 57 = .bool false ∧ E' 58 = ptr b138 6 ∧ E' 59 = ptr b138 10 ∧ E' 60 = v120 ∧ E' 61 = .int .i64 (a101.record.box.length : Int) ∧ E' 62 = .bool (decide (2500 < (a101.record.box.length : Int))) ∧ E' 63 = .bool (decide (2500 < (a101.record.box.length : Int))) ∧ E' 64 = .bool (decide (2500 < (a101.record.box.length : Int))) ∧ E' 69 = .bool ((decide (2500 < (a101.record.box.length : Int))) || (decide (100 < (a101.raw.length : Int)))) ∧ E' 70 = .bool ((decide (2500 < (a101.record.box.length : Int))) || (decide (100 < (a101.raw.length : Int)))) ∧ E' 75 = .bool (((decide (2500 < (a101.record.box.length : Int))) || (decide (100 < (a101.raw.length : Int)))) || (decide (2500 < (a101.text.length : Int)))) ∧ E' 76 = ptr b138 4 ∧ E' 77 = v110 ∧ E' 78 = ptr b138 2 ∧ E' 79 = .int .i64 a101.keyNo ∧ E' 80 = .bool (decide (0 ≤ a101.keyNo)) ∧ E' 81 = .bool (decide (0 ≤ a101.keyNo)) ∧ E' 85 = .bool ((decide (0 ≤ a101.keyNo)) && (decide (a101.keyNo < 4))) ∧ E' 90 = ptr b138 6 ∧ E' 91 = .agg ((recRC a101.record v120)).toArray ∧ E' 92 = ptr b138 1 ∧ E' 93 = .int .i64 a101.ref ∧ E' 94 = .bool (decide (0 < a101.ref)) ∧ E' 95 = .bool (decide (0 < a101.ref)) ∧ E' 101 = .bool ((decide (0 < a101.ref)) && (decide (a101.ref ≤ (tl.length : Int)))) ∧ E' 111 = ptr b138 0 ∧ E' 112 = .int .i64 a101.kind ∧ (Plain L2) ∧ (L2.length ≤ L.length + 3) ∧ (Texts 10000 L2) ∧ (∀ x ∈ tl2, smallR x) ∧ (tl2.length ≤ tl.length + 1) ∧ Gh.le I89 J ∧ Sat w' J (OwnX 35 recR tv2 tl2 :: Suite p21 L2 :: RefT (ptr b22) L2 :: Blk b138 40 (sopRC a101 v110 v113 v120 v126 v129 v135) :: Blk b29 31 vs :: R)) ?_ ?_
  refine EC_block (EC_seq (EC_reg (vl (.bool false) rfl (r_dec (show (decide (a101.kind = 1)) = false from by rw [decide_eq_false_iff_not]; omega) (r_eql rfl rfl)) (vA (.bool false) rfl rfl (EL_nil ?_)))))
  refine thn_n ?_
  refine EC_cond_false rfl ?_
  refine EC_seq (EC_reg (vl (.bool false) rfl (r_dec (show (decide (a101.kind = 2)) = false from by rw [decide_eq_false_iff_not]; omega) (r_eql rfl rfl)) (vA (.bool false) rfl rfl (EL_nil (thn_n ?_)))))
  refine EC_cond_false rfl ?_
  refine EC_seq (EC_reg (vl (.bool true) rfl (r_dec (show (decide (a101.kind = 3)) = true from by rw [decide_eq_true_eq]; omega) (r_eql rfl rfl)) (vA (.bool true) rfl rfl (EL_nil (thn_n ?_)))))
  refine EC_cond_true rfl ?_
  refine EC_seq (EC_reg (vl (.agg ([.int .i64 (r9.coll), .int .i64 (r9.epoch), .int .i64 (r9.writer), .int .i64 (r9.count), rv]).toArray) rfl (r_loadAll (by exact e269) (S306.arr 0 rfl) U35 rfl (by kernel_rfl)) ?_))
  refine EL_alloc (z := .agg #[.int .i64 0, .int .i64 0, .int .i64 0, .int .i64 0, .slice none 0 0]) recR0 rfl (by kernel_rfl) rfl ?_
  intro b759 w760 k761 A762 B763 z764
  have S765 := S306.newB B763 A762 k761
  refine sA [.int .i64 (r9.coll), .int .i64 (r9.epoch), .int .i64 (r9.writer), .int .i64 (r9.count), rv] rfl rfl (S765.arr 0 rfl) rfl (by kernel_rfl) (ones_cons rfl (ones_cons rfl (ones_cons rfl (ones_cons rfl (ones_cons orv (fun _ h => nomatch h)))))) ?_
  intro w766 A767 K768 z769
  have S770 := S765.wr0 (ds := [.int .i64 (r9.coll), .int .i64 (r9.epoch), .int .i64 (r9.writer), .int .i64 (r9.count), rv]) K768 A767
  refine EL_nil (thn_n (EC_seq (EC_seq (EC_reg (vl (.agg ([.int .i64 (r9.coll), .int .i64 (r9.epoch), .int .i64 (r9.writer), .int .i64 (r9.count), rv]).toArray) rfl (r_loadAll rfl (S770.arr 0 rfl) U46 rfl (by kernel_rfl)) ?_)))))
  refine eR rfl F17 rfl (Nums15_c [.int .i64 (r9.coll), .int .i64 (r9.epoch), .int .i64 (r9.writer), .int .i64 (r9.count), rv] r9 I89 _ _ S770 ⟨rv, rfl, (by first | assumption | (dsimp only; omega)), (by first | assumption | (dsimp only; omega)), (by first | assumption | (dsimp only; omega)), (by first | assumption | (dsimp only; omega)), ⟨orv, H305⟩⟩) ?_
  rintro _ w771 ⟨rfl, S772⟩
  refine vl (.bool !r9.nums) rfl (r_not rfl) (EL_nil (thn_n ?_))
  refine EC_cond (t := !r9.nums) rfl (fun h773 => ?_) (fun h773 => ?_)
  refine EC_exit (thn_x ?_)
  refine inB_miss rfl ?_
  refine thn_x (thn_x (inB_hit (thn_n (EC_reg ?_))))
  refine EL_int ((i : Int) + 1) rfl (r_addi (by exact e272) rfl (by omega)) ?_
  intro x774 hx774
  refine vM (.int .i64 x774) rfl rfl (EL_nil (thn_n ?_))
  have S775 := S772.dr0
  have S776 := S775.dr0
  have S777 := S776.dr0
  refine ⟨_, ?_, i + 1, L, tv, tl, I89, rfl, (Eq.trans (show _ = Value.int .i64 x774 from rfl) (congrArg _ (by omega))), (by exact e266), (by exact e262), (by exact e263), (by exact e264), (by exact e265), (by exact e270), (by exact e271), by omega, hPl, by omega, hTx, hTl, by omega, (hK4.up (Gh.le_refl _)), le98, S777⟩
  first | omega | (simp; omega)
  have hnm9 : r9.nums = true := (Bool.not_eq_false' _).mp h773
  have hnu := nums_iff.1 hnm9
  refine EC_skip (thn_n (EC_seq (EC_reg (vl (ptr b209 2) rfl (fP 0 (by exact e269) U35 (by kernel_rfl)) (vL (.int .i64 (r9.writer)) rfl rfl (S772.arr 1 rfl) rfl U3 rfl ?_)))))
  refine vl (ptr b209 3) rfl (fP 0 (by exact e269) U35 (by kernel_rfl)) (vL (.int .i64 (r9.count)) rfl rfl (S772.arr 1 rfl) rfl U3 rfl ?_)
  refine eR rfl F18 rfl (Nonce14_c (r9.writer) (r9.count) I89 _ _ S772 (by omega) (by omega)) ?_
  rintro _ w778 ⟨v780, rfl, S779⟩
  refine vA v780 rfl rfl (EL_nil (thn_n (EC_seq ?_)))
  refine EC_any 12 (fun w' => Gh.le I89 (gh w')) (fun w' => Arr w' b759 46 [.int .i64 (r9.coll), .int .i64 (r9.epoch), .int .i64 (r9.writer), .int .i64 (r9.count), rv] ∧ Arr w' b138 40 (sopRC a101 v110 v113 v120 v126 v129 v135)) (by kernel_rfl) ?_
  intro w781 B782
  have S783 := S779.below B782
  refine jT 0 rfl (by kernel_rfl) p21 rfl (fun _ hw ht => r_move (by exact e263)) ⟨S783.le, fun h => ⟨S783.arr 1 rfl, S783.arr 3 rfl⟩⟩ ?_
  refine jT 1 rfl (by kernel_rfl) kv rfl (fun _ hw ht => r_move (by exact e268)) ⟨S783.le, fun h => ⟨S783.arr 1 rfl, S783.arr 3 rfl⟩⟩ ?_
  refine jT 2 rfl (by kernel_rfl) v780 rfl (fun _ hw ht => r_move rfl) ⟨S783.le, fun h => ⟨S783.arr 1 rfl, S783.arr 3 rfl⟩⟩ ?_
  refine jT 3 rfl (by kernel_rfl) (.agg ([.int .i64 (r9.coll), .int .i64 (r9.epoch), .int .i64 (r9.writer), .int .i64 (r9.count), rv]).toArray) rfl (fun _ hw ht => r_loadAll rfl ht.1 U46 rfl (by kernel_rfl)) ⟨S783.le, fun h => ⟨S783.arr 1 rfl, S783.arr 3 rfl⟩⟩ ?_
  refine jT 5 rfl (by kernel_rfl) (ptr b138 5) rfl (fun _ hw ht => fP 0 (by exact e267) U40 (by kernel_rfl)) ⟨S783.le, fun h => ⟨S783.arr 1 rfl, S783.arr 3 rfl⟩⟩ ?_
  refine jT 6 rfl (by kernel_rfl) v113 rfl (fun _ hw ht => r_loadA rfl ht.2 (u := v113) rfl U22 rfl) ⟨S783.le, fun h => ⟨S783.arr 1 rfl, S783.arr 3 rfl⟩⟩ ?_
  refine EJ_one 4 (by kernel_rfl) ⟨_, rfl, ?_⟩
  refine eR rfl F20 rfl (Front15_c [.int .i64 (r9.coll), .int .i64 (r9.epoch), .int .i64 (r9.writer), .int .i64 (r9.count), rv] r9 I89 _ _ S783 ⟨rv, rfl, (by first | assumption | (dsimp only; omega)), (by first | assumption | (dsimp only; omega)), (by first | assumption | (dsimp only; omega)), (by first | assumption | (dsimp only; omega)), ⟨orv, H305⟩⟩ hnm9) ?_
  rintro _ w784 ⟨v786, rfl, S785⟩
  refine EL_nil ?_
  refine ⟨rfl, ⟨S785.le, fun h => ⟨S785.arr 2 rfl, S785.arr 4 rfl⟩⟩, ?_⟩
  refine EJ_one 7 (by kernel_rfl) ⟨_, rfl, ?_⟩
  obtain ⟨I787, le788, S789, H790⟩ := S785.fb1
  obtain ⟨I791, le792, S793, H794⟩ := S789.fb0
  have S795 := S793.fr4
  refine eR rfl F19 rfl (Seal_c p21 L kv kk v780 (be6 (r9.writer) ++ be6 (r9.count)) v786 r9.front v113 a101.text I791 _ _ S795 (H207.up (lT le788 le792)) (H790.up le792) H794 (H115.up (lT (lT (lT (lT le14 le56) le98) le788) le792)) (by omega) (by omega) (by simp [be6]) (Nat.le_trans (front_le _) (by decide)) (by omega)) ?_
  rintro _ w796 ⟨v798, rfl, S797⟩
  refine EL_nil ?_
  refine ⟨rfl, ⟨(lT (lT le788 le792) S797.le), fun h => ⟨S797.arr 2 rfl, S797.arr 4 rfl⟩⟩, ?_⟩
  refine EJ_strong (fun w' => Gh.le I791 (gh w')) _ (fun w' hw => lT (lT le788 le792) hw) (fun w' _ ht => ht) ?_
  refine jT 8 rfl (by kernel_rfl) (.tuple #[v798, .int .i64 (sealE kk (be6 (r9.writer) ++ be6 (r9.count)))]) rfl (fun _ hw ht => r_move rfl) ⟨S797.le, fun h => ⟨S797.arr 2 rfl, S797.arr 4 rfl⟩⟩ ?_
  refine jT 9 rfl (by kernel_rfl) v798 rfl (fun _ hw ht => r_extract rfl rfl) ⟨S797.le, fun h => ⟨S797.arr 2 rfl, S797.arr 4 rfl⟩⟩ ?_
  refine jF 10 rfl (by kernel_rfl) (.int .i64 (sealE kk (be6 (r9.writer) ++ be6 (r9.count)))) rfl (fun _ hw => r_extract rfl rfl) ⟨S797.le, fun h => ⟨S797.arr 2 rfl, S797.arr 4 rfl⟩⟩ ?_
  refine jT 11 rfl (by kernel_rfl) (ptr b209 4) rfl (fun _ hw ht => fP 0 (by exact e269) U35 (by kernel_rfl)) ⟨S797.le, fun h => ⟨S797.arr 2 rfl, S797.arr 4 rfl⟩⟩ ?_
  refine EJ_one 12 (by kernel_rfl) ⟨_, rfl, ?_⟩
  refine EL_storeA (j := 4) (u := v798) rfl rfl (S797.arr 3 rfl) (by first | decide | (simp; omega) | simp) (own_one (S797.own 0 rfl)) (by kernel_rfl) ?_
  intro w799 A800 K801 z802
  have S803 := S797.wr3 (ds := [.int .i64 (r9.coll), .int .i64 (r9.epoch), .int .i64 (r9.writer), .int .i64 (r9.count), v798]) K801 A800
  refine EL_nil ?_
  refine ⟨rfl, ⟨S803.le, fun h => by cases h⟩, ?_⟩
  refine EJ_done (by kernel_rfl) ?_
  refine thn_n (EC_seq ?_)
  refine EC_any 7 (fun w' => Gh.le I791 (gh w')) (fun w' => Arr w' b759 46 [.int .i64 (r9.coll), .int .i64 (r9.epoch), .int .i64 (r9.writer), .int .i64 (r9.count), rv] ∧ Arr w' b138 40 (sopRC a101 v110 v113 v120 v126 v129 v135)) (by kernel_rfl) ?_
  intro w804 B805
  have S806 := S803.below B805
  refine jT 0 rfl (by kernel_rfl) (ptr b22) rfl (fun _ hw ht => r_move (by exact e264)) ⟨S806.le, fun h => ⟨S806.arr 2 rfl, S806.arr 4 rfl⟩⟩ ?_
  refine jT 1 rfl (by kernel_rfl) kv rfl (fun _ hw ht => r_move (by exact e268)) ⟨S806.le, fun h => ⟨S806.arr 2 rfl, S806.arr 4 rfl⟩⟩ ?_
  refine jT 2 rfl (by kernel_rfl) v780 rfl (fun _ hw ht => r_move rfl) ⟨S806.le, fun h => ⟨S806.arr 2 rfl, S806.arr 4 rfl⟩⟩ ?_
  refine jT 3 rfl (by kernel_rfl) (.agg ([.int .i64 (r9.coll), .int .i64 (r9.epoch), .int .i64 (r9.writer), .int .i64 (r9.count), rv]).toArray) rfl (fun _ hw ht => r_loadAll rfl ht.1 U46 rfl (by kernel_rfl)) ⟨S806.le, fun h => ⟨S806.arr 2 rfl, S806.arr 4 rfl⟩⟩ ?_
  refine jT 5 rfl (by kernel_rfl) (ptr b138 5) rfl (fun _ hw ht => fP 0 (by exact e267) U40 (by kernel_rfl)) ⟨S806.le, fun h => ⟨S806.arr 2 rfl, S806.arr 4 rfl⟩⟩ ?_
  refine jT 6 rfl (by kernel_rfl) v113 rfl (fun _ hw ht => r_loadA rfl ht.2 (u := v113) rfl U22 rfl) ⟨S806.le, fun h => ⟨S806.arr 2 rfl, S806.arr 4 rfl⟩⟩ ?_
  refine EJ_one 4 (by kernel_rfl) ⟨_, rfl, ?_⟩
  refine eR rfl F20 rfl (Front15_c [.int .i64 (r9.coll), .int .i64 (r9.epoch), .int .i64 (r9.writer), .int .i64 (r9.count), rv] r9 I791 _ _ S806 ⟨rv, rfl, (by first | assumption | (dsimp only; omega)), (by first | assumption | (dsimp only; omega)), (by first | assumption | (dsimp only; omega)), (by first | assumption | (dsimp only; omega)), ⟨orv, (H305.up (lT le788 le792))⟩⟩ hnm9) ?_
  rintro _ w807 ⟨v809, rfl, S808⟩
  refine EL_nil ?_
  refine ⟨rfl, ⟨S808.le, fun h => ⟨S808.arr 3 rfl, S808.arr 5 rfl⟩⟩, ?_⟩
  refine EJ_one 7 (by kernel_rfl) ⟨_, rfl, ?_⟩
  obtain ⟨I810, le811, S812, H813⟩ := S808.fb0
  have S814 := S812.fr6
  refine eR rfl F21 rfl (rSeal_c (ptr b22) L kv kk v780 (be6 (r9.writer) ++ be6 (r9.count)) v809 r9.front v113 a101.text I810 _ _ S814 (H207.up (lT (lT le788 le792) le811)) (H790.up (lT le792 le811)) H813 (H115.up (lT (lT (lT (lT (lT le14 le56) le98) le788) le792) le811)) (by omega) (by omega) (by simp [be6]) (Nat.le_trans (front_le _) (by decide)) (by omega)) ?_
  rintro _ w815 ⟨v817, I818, le819, rfl, S816⟩
  refine EL_nil ?_
  refine ⟨rfl, ⟨(lT (lT le811 le819) S816.le), fun h => by cases h⟩, ?_⟩
  refine EJ_strong (fun w' => Gh.le I818 (gh w')) _ (fun w' hw => lT (lT le811 le819) hw) (fun w' _ ht => ht) ?_
  refine EJ_done (by kernel_rfl) ?_
  refine thn_n (EC_reg (vM tv rfl e266 (vl (.agg ([.int .i64 (r9.coll), .int .i64 (r9.epoch), .int .i64 (r9.writer), .int .i64 (r9.count), v798]).toArray) rfl (r_loadAll (by exact e269) (S816.arr 5 rfl) U35 rfl (by kernel_rfl)) ?_)))
  obtain ⟨I820, le821, S822, H823⟩ := S816.fb2
  refine EL_litW (z := #[.int .i64 0, .int .i64 0, .int .i64 0, .int .i64 0, .slice none 0 0]) (cs := ([.int .i64 (r9.coll), .int .i64 (r9.epoch), .int .i64 (r9.writer), .int .i64 (r9.count), v798]).toArray) (sz := 5) (l := [(0, .agg ([.int .i64 (r9.coll), .int .i64 (r9.epoch), .int .i64 (r9.writer), .int .i64 (r9.count), v798]).toArray)]) rfl U33 (by kernel_rfl) (parts1 rfl) (by kernel_rfl) rfl (by decide) ?_
  intro v824 w825 O826 B827 k828
  have S829 : Sat w825 I820 (OwnX 35 recR v824 [(⟨(r9.coll), (r9.epoch), (r9.writer), (r9.count), sealB L kk (be6 (r9.writer) ++ be6 (r9.count)) a101.text⟩ : Record)] :: OwnB v817 (sealB L kk (be6 (r9.writer) ++ be6 (r9.count)) a101.text) :: RefT (ptr b22) (sealL L kk (be6 (r9.writer) ++ be6 (r9.count)) r9.front a101.text) :: Suite p21 (sealL L kk (be6 (r9.writer) ++ be6 (r9.count)) r9.front a101.text) :: Blk b759 46 [.int .i64 (r9.coll), .int .i64 (r9.epoch), .int .i64 (r9.writer), .int .i64 (r9.count), rv] :: Blk b209 35 [.int .i64 (r9.coll), .int .i64 (r9.epoch), .int .i64 (r9.writer), .int .i64 (r9.count), v798] :: Blk b138 40 (sopRC a101 v110 v113 v120 v126 v129 v135) :: OwnX 35 recR tv tl :: Blk b29 31 vs :: R) := OwnX.cls (xss := [[.int .i64 (r9.coll), .int .i64 (r9.epoch), .int .i64 (r9.writer), .int .i64 (r9.count), v798]]) (.cons ⟨v798, rfl, (by first | assumption | (dsimp only; omega)), (by first | assumption | (dsimp only; omega)), (by first | assumption | (dsimp only; omega)), (by first | assumption | (dsimp only; omega)), ⟨(row_one (H823 _ S822.le)), H823⟩⟩ .nil) (S822.newO B827 O826)
  have oH836 := (OwnX.one S829 0 rfl (by decide))
  obtain ⟨I833, le834, S835, H836⟩ := S829.fx0 (by decide)
  have S837 := S835.fr6
  refine EL_appX (z := (.agg #[.int .i64 0, .int .i64 0, .int .i64 0, .int .i64 0, .slice none 0 0])) (bytes := 56) rfl U33 (by kernel_rfl) rfl (by decide) rfl rfl S837 H836 (by first | omega | (simp; done) | (simp only [List.length_cons, List.length_nil]; omega) | (rw [List.length_append]; simp only [List.length_cons, List.length_nil]; omega) | (simp; omega)) (by first | omega | (simp; done) | (simp only [List.length_cons, List.length_nil]; omega) | (rw [List.length_append]; simp only [List.length_cons, List.length_nil]; omega) | (simp; omega)) ?_
  intro v830 w831 S832
  refine vA v830 rfl rfl (EL_nil (inB_n (thn_n ?_)))
  have S838 := S832.dr1
  have S839 := S838.dr3
  have S840 := S839.dr3
  have S841 := S840.fr4
  have S842 := S841.fr4
  have S843 := S842.fr3
  have S844 := S843.fr4
  have S845 := S844.fr4
  exact ⟨(sealL L kk (be6 (r9.writer) ++ be6 (r9.count)) r9.front a101.text), v830, (tl ++ [(⟨(r9.coll), (r9.epoch), (r9.writer), (r9.count), sealB L kk (be6 (r9.writer) ++ be6 (r9.count)) a101.text⟩ : Record)]), I833, rfl, (by exact e262), (by exact e263), (by exact e264), (by exact e265), (by exact e267), (by exact e268), (by exact e269), (by exact e270), (by exact e271), (by exact e272), (by exact e273), (by exact e274), (by exact e275), (by exact e276), (by exact e277), (by exact e278), (by exact e279), (by exact e280), (by exact e281), (by exact e282), (by exact e283), (by exact e284), (by exact e285), (by exact e286), (by exact e287), (by exact e288), (by exact e289), (by exact e290), (by exact e291), (by exact e292), (by exact e293), (by exact e294), (by exact e295), (by exact e296), (by exact e297), (by exact e298), (by exact e299), (by exact e300), (by exact e301), (by exact e302), (by exact e303), (by exact e304), rfl, rfl, hPl.sealL, (Nat.le_trans sealL_len (by omega)), (hTx.sealL (by omega)), (small_all hTl (smallR.box hnm9 (Nat.le_trans sealB_le (by omega)))), (by simp), (lT (lT (lT (lT (lT le788 le792) le811) le819) le821) le834), S845⟩
  rintro E846 w847 ⟨L2, tv2, tl2, I848, e849, e850, e851, e852, e853, e854, e855, e856, e857, e858, e859, e860, e861, e862, e863, e864, e865, e866, e867, e868, e869, e870, e871, e872, e873, e874, e875, e876, e877, e878, e879, e880, e881, e882, e883, e884, e885, e886, e887, e888, e889, e890, e891, e892, e893, hPl2, hLl2, hTx2, hTl2, htl2, le894, S895⟩
  refine thn_n (EC_seq ?_)
  have S896 := S895.fr2
  obtain ⟨lv898, S897⟩ := RefT.at S896
  skip
  refine EC_quietB (by kernel_rfl) (by kernel_rfl) ?_
  refine EQ_val p21 rfl (fun _ hw => r_move (by exact e851)) ?_
  have S899 := S897.fr3
  refine EQ_call (.int .i64 (L2.length : Int)) _ rfl Tryz.func22 rfl nm22 rfl (fun w2 hw => (Count_c p21 L2 _ _ _ (S899.below hw) (by omega)).mono ?_) ?_
  · rintro _ _ ⟨rfl, B900⟩
    exact ⟨rfl, below_full hw hw.size B900⟩
  refine EQ_val (ptr b22) rfl (fun _ hw => r_move (by exact e852)) (EQ_val (ptr b22) rfl (fun _ hw => r_nil rfl) (EQ_val (ptr b22 0) rfl (fun _ hw => fP 0 rfl U30 (by kernel_rfl)) (EQ_val lv898 rfl (fun _ hw => r_loadA rfl ((S899.arr 1 rfl).below hw) (u := lv898) rfl U28 rfl) (EQ_val (.int .i64 (L2.length : Int)) rfl (fun _ hw => r_lenX rfl (XRow.below (OwnX.row S899 2 rfl (by decide)).1 (hp_below hw)) U28) (EQ_val (.bool false) rfl (fun _ hw => r_dec (show (decide ((L2.length : Int) ≠ (L2.length : Int))) = false from by simp) (r_neq rfl rfl)) ?_)))))
  refine EQ_nil ?_
  intro w902 B903
  have S904 := S899.below B903
  refine thn_n ?_
  refine EC_cond_false rfl ?_
  refine EC_skip (inB_n (thn_n (EC_reg ?_)))
  refine EL_int ((i : Int) + 1) rfl (r_addi (by exact e859) rfl (by omega)) ?_
  intro x905 hx905
  refine vM (.int .i64 x905) rfl rfl (EL_nil (thn_n ?_))
  have S906 := S904.fr2
  have S907 := S906.fr2
  have S908 := RefT.cls S907
  have S909 := S908.dr3
  have S910 := S909.fr3
  have S911 := S910.fr1
  have S912 := S911.fr2
  have S913 := S912.fr3
  refine ⟨_, ?_, i + 1, L2, tv2, tl2, I848, rfl, (Eq.trans (show _ = Value.int .i64 x905 from rfl) (congrArg _ (by omega))), (by exact e849), (by exact e850), (by exact e851), (by exact e852), (by exact e853), (by exact e857), (by exact e858), by omega, hPl2, by omega, hTx2, hTl2, by omega, (hK4.up le894), (lT le98 le894), S913⟩
  first | omega | (simp; omega)
  refine EC_reg (vl (ptr b138 0) rfl (fP 0 (by exact e267) U40 (by kernel_rfl)) (vL (.int .i64 a101.kind) rfl rfl (S306.arr 1 rfl) rfl U3 rfl (EL_nil (thn_n ?_))))
  refine EC_post (fun E' w' => ∃ L2 : List Thing, ∃ tv2 : Value, ∃ tl2 : List Record, ∃ J : Gh, E' 9 = tv2 ∧ E' 0 = v0 ∧ E' 5 = p21 ∧ E' 6 = ptr b22 ∧ E' 7 = ptr b29 ∧ E' 11 = ptr b138 ∧ E' 12 = kv ∧ E' 13 = ptr b209 ∧ E' 47 = v1 ∧ E' 48 = .int .i64 (ops.length : Int) ∧ E' 49 = .int .i64 (i : Int) ∧ E' 50 = .bool (decide ((i : Int) < (ops.length : Int))) ∧ E' 51 = ptr (blkOf v1) (offOf v1 + ((i : Int) : Int).toNat * 20) ∧ E' 52 = .agg ((sopRC a101 v110 v113 v120 v126 v129 v135)).toArray ∧ E' 53 = ptr b138 11 ∧ E' 54 = .agg ((entRC a101.entry v126 v129 v135)).toArray ∧ E' 55 = .bool true ∧ E' 56 = .bool false ∧ E' 57 = .bool false ∧ E' 58 = ptr b138 6 ∧ E' 59 = ptr b138 10 ∧ E' 60 = v120 ∧ E' 61 = .int .i64 (a101.record.box.length : Int) ∧ E' 62 = .bool (decide (2500 < (a101.record.box.length : Int))) ∧ E' 63 = .bool (decide (2500 < (a101.record.box.length : Int))) ∧ E' 64 = .bool (decide (2500 < (a101.record.box.length : Int))) ∧ E' 69 = .bool ((decide (2500 < (a101.record.box.length : Int))) || (decide (100 < (a101.raw.length : Int)))) ∧ E' 70 = .bool ((decide (2500 < (a101.record.box.length : Int))) || (decide (100 < (a101.raw.length : Int)))) ∧ E' 75 = .bool (((decide (2500 < (a101.record.box.length : Int))) || (decide (100 < (a101.raw.length : Int)))) || (decide (2500 < (a101.text.length : Int)))) ∧ E' 76 = ptr b138 4 ∧ E' 77 = v110 ∧ E' 78 = ptr b138 2 ∧ E' 79 = .int .i64 a101.keyNo ∧ E' 80 = .bool (decide (0 ≤ a101.keyNo)) ∧ E' 81 = .bool (decide (0 ≤ a101.keyNo)) ∧ E' 85 = .bool ((decide (0 ≤ a101.keyNo)) && (decide (a101.keyNo < 4))) ∧ E' 90 = ptr b138 6 ∧ E' 91 = .agg ((recRC a101.record v120)).toArray ∧ E' 92 = ptr b138 1 ∧ E' 93 = .int .i64 a101.ref ∧ E' 94 = .bool (decide (0 < a101.ref)) ∧ E' 95 = .bool (decide (0 < a101.ref)) ∧ E' 101 = .bool ((decide (0 < a101.ref)) && (decide (a101.ref ≤ (tl.length : Int)))) ∧ E' 111 = ptr b138 0 ∧ E' 112 = .int .i64 a101.kind ∧ (Plain L2) ∧ (L2.length ≤ L.length + 3) ∧ (Texts 10000 L2) ∧ (∀ x ∈ tl2, smallR x) ∧ (tl2.length ≤ tl.length + 1) ∧ Gh.le I89 J ∧ Sat w' J (OwnX 35 recR tv2 tl2 :: Suite p21 L2 :: RefT (ptr b22) L2 :: Blk b138 40 (sopRC a101 v110 v113 v120 v126 v129 v135) :: Blk b29 31 vs :: R)) ?_ ?_
  refine EC_block (EC_seq (EC_reg (vl (.bool false) rfl (r_dec (show (decide (a101.kind = 1)) = false from by rw [decide_eq_false_iff_not]; omega) (r_eql rfl rfl)) (vA (.bool false) rfl rfl (EL_nil ?_)))))
  refine thn_n ?_
  refine EC_cond_false rfl ?_
  refine EC_seq (EC_reg (vl (.bool false) rfl (r_dec (show (decide (a101.kind = 2)) = false from by rw [decide_eq_false_iff_not]; omega) (r_eql rfl rfl)) (vA (.bool false) rfl rfl (EL_nil (thn_n ?_)))))
  refine EC_cond_false rfl ?_
  refine EC_seq (EC_reg (vl (.bool false) rfl (r_dec (show (decide (a101.kind = 3)) = false from by rw [decide_eq_false_iff_not]; omega) (r_eql rfl rfl)) (vA (.bool false) rfl rfl (EL_nil (thn_n ?_)))))
  refine EC_cond_false rfl ?_
  refine EC_skip (inB_n (thn_n ?_))
  have S914 := S306.dr0
  have S915 := S914.fr4
  have S916 := S915.fr1
  have S917 := S916.fr4
  have S918 := S917.fr4
  have S919 := S918.fr4
  exact ⟨L, tv, tl, I89, (by exact e266), (by exact e262), (by exact e263), (by exact e264), (by exact e265), (by exact e267), (by exact e268), (by exact e269), (by exact e270), (by exact e271), (by exact e272), (by exact e273), (by exact e274), (by exact e275), (by exact e276), (by exact e277), (by exact e278), (by exact e279), (by exact e280), (by exact e281), (by exact e282), (by exact e283), (by exact e284), (by exact e285), (by exact e286), (by exact e287), (by exact e288), (by exact e289), (by exact e290), (by exact e291), (by exact e292), (by exact e293), (by exact e294), (by exact e295), (by exact e296), (by exact e297), (by exact e298), (by exact e299), (by exact e300), (by exact e301), (by exact e302), (by exact e303), (by exact e304), rfl, rfl, hPl, (by omega), hTx, hTl, (by omega), (Gh.le_refl _), S919⟩
  rintro E920 w921 ⟨L2, tv2, tl2, I922, e923, e924, e925, e926, e927, e928, e929, e930, e931, e932, e933, e934, e935, e936, e937, e938, e939, e940, e941, e942, e943, e944, e945, e946, e947, e948, e949, e950, e951, e952, e953, e954, e955, e956, e957, e958, e959, e960, e961, e962, e963, e964, e965, e966, e967, hPl2, hLl2, hTx2, hTl2, htl2, le968, S969⟩
  refine thn_n (EC_seq ?_)
  have S970 := S969.fr2
  obtain ⟨lv972, S971⟩ := RefT.at S970
  skip
  refine EC_quietB (by kernel_rfl) (by kernel_rfl) ?_
  refine EQ_val p21 rfl (fun _ hw => r_move (by exact e925)) ?_
  have S973 := S971.fr3
  refine EQ_call (.int .i64 (L2.length : Int)) _ rfl Tryz.func22 rfl nm22 rfl (fun w2 hw => (Count_c p21 L2 _ _ _ (S973.below hw) (by omega)).mono ?_) ?_
  · rintro _ _ ⟨rfl, B974⟩
    exact ⟨rfl, below_full hw hw.size B974⟩
  refine EQ_val (ptr b22) rfl (fun _ hw => r_move (by exact e926)) (EQ_val (ptr b22) rfl (fun _ hw => r_nil rfl) (EQ_val (ptr b22 0) rfl (fun _ hw => fP 0 rfl U30 (by kernel_rfl)) (EQ_val lv972 rfl (fun _ hw => r_loadA rfl ((S973.arr 1 rfl).below hw) (u := lv972) rfl U28 rfl) (EQ_val (.int .i64 (L2.length : Int)) rfl (fun _ hw => r_lenX rfl (XRow.below (OwnX.row S973 2 rfl (by decide)).1 (hp_below hw)) U28) (EQ_val (.bool false) rfl (fun _ hw => r_dec (show (decide ((L2.length : Int) ≠ (L2.length : Int))) = false from by simp) (r_neq rfl rfl)) ?_)))))
  refine EQ_nil ?_
  intro w976 B977
  have S978 := S973.below B977
  refine thn_n ?_
  refine EC_cond_false rfl ?_
  refine EC_skip (inB_n (thn_n (EC_reg ?_)))
  refine EL_int ((i : Int) + 1) rfl (r_addi (by exact e933) rfl (by omega)) ?_
  intro x979 hx979
  refine vM (.int .i64 x979) rfl rfl (EL_nil (thn_n ?_))
  have S980 := S978.fr2
  have S981 := S980.fr2
  have S982 := RefT.cls S981
  have S983 := S982.dr3
  have S984 := S983.fr3
  have S985 := S984.fr1
  have S986 := S985.fr2
  have S987 := S986.fr3
  refine ⟨_, ?_, i + 1, L2, tv2, tl2, I922, rfl, (Eq.trans (show _ = Value.int .i64 x979 from rfl) (congrArg _ (by omega))), (by exact e923), (by exact e924), (by exact e925), (by exact e926), (by exact e927), (by exact e931), (by exact e932), by omega, hPl2, by omega, hTx2, hTl2, by omega, (hK4.up le968), (lT le98 le968), S987⟩
  first | omega | (simp; omega)
  refine EC_reg (vl (ptr b138 11) rfl (r_fieldP (o := 0) (s := 9) rfl U40 rfl (by kernel_rfl) (by decide) rfl) (vl (.agg ((entRC a101.entry v126 v129 v135)).toArray) rfl (r_loadR (o := 11) (cs := (entRC a101.entry v126 v129 v135)) rfl (range_cut0 (n := 9) 11 (Arr.range (S149.arr 0 rfl)) rfl) U38 rfl (by kernel_rfl)) ?_))
  refine eR rfl F8 rfl (Small_c (entRC a101.entry v126 v129 v135) a101.entry I89 _ _ S149 ⟨v126, v129, v135, rfl, (by first | assumption | (dsimp only; omega)), (by first | assumption | (dsimp only; omega)), (by first | assumption | (dsimp only; omega)), ⟨o127, (H128.up (lT (lT le14 le56) le98))⟩, ⟨o130, (H131.up (lT (lT le14 le56) le98))⟩, (by first | assumption | (dsimp only; omega)), (by first | assumption | (dsimp only; omega)), (by first | assumption | (dsimp only; omega)), ⟨o136, (H137.up (lT (lT le14 le56) le98))⟩⟩) ?_
  rintro _ w988 ⟨rfl, S989⟩
  refine vl (.bool true) rfl (r_dec (show (!false) = true from rfl) (r_not (Eq.trans (show _ = Value.bool (smallE a101.entry) from rfl) (congrArg Value.bool (show (smallE a101.entry) = false from hsm))))) (vM (.bool true) rfl rfl (EL_pass 57 rfl rfl rfl rfl rfl (EL_pass 57 rfl rfl rfl rfl rfl (EL_pass 57 rfl rfl rfl rfl rfl (EL_pass 57 rfl rfl rfl rfl rfl ?_)))))
  refine EL_pass 57 rfl rfl rfl rfl rfl (vT (.bool true) rfl rfl rfl (vM (.bool true) rfl rfl (EL_pass 64 rfl rfl rfl rfl rfl (EL_pass 64 rfl rfl rfl rfl rfl (EL_pass 64 rfl rfl rfl rfl rfl ?_)))))
  refine EL_pass 64 rfl rfl rfl rfl rfl (vT (.bool true) rfl rfl rfl (vM (.bool true) rfl rfl (EL_pass 70 rfl rfl rfl rfl rfl (EL_pass 70 rfl rfl rfl rfl rfl (EL_pass 70 rfl rfl rfl rfl rfl ?_)))))
  refine EL_pass 70 rfl rfl rfl rfl rfl (vT (.bool true) rfl rfl rfl (EL_nil (thn_n ?_)))
  refine EC_cond_true rfl ?_
  refine EC_seq (EC_reg (vA (.bool true) rfl rfl (EL_nil (thn_n (EC_ret ?_)))))
  refine thn_r (inB_r (thn_r (thn_r (inB_r (thn_r ?_)))))
  refine fin1 Tryz.results3 (show _ = .bool true from rfl) ⟨_, rfl, ?_⟩
  have S990 := S989.dr0
  have S991 := S990.dr0
  have S992 := S991.dr0
  have S993 := S992.dr0
  have S994 := S993.dr0
  exact ⟨I89, (lT (lT le14 le56) le98), rfl, S994⟩
  refine EC_exit (thn_x (thn_x (inB_hit (thn_n (EC_seq ?_)))))
  refine EC_reg (vA (.bool true) rfl rfl (EL_nil (thn_n (EC_ret ?_))))
  refine fin1 Tryz.results3 (show _ = .bool true from rfl) ⟨_, rfl, ?_⟩
  have S995 := S99.dr0
  have S996 := S995.dr0
  have S997 := S996.dr0
  have S998 := S997.dr0
  exact ⟨I89, (lT (lT le14 le56) le98), rfl, S998⟩
theorem SealedPlays_c (v0 : Value) (secret : List UInt8) (v1 : Value) (ops : (List SOp)) (w : World) (H0 : Bs w v0 secret) (H1 : RoX (gh w) v1 sopR ops) : Ret Tryz.prog 3 [v0, v1] w fun v w' => v = .bool true ∧ Below w.heap.size w w' :=
  (SealedPlays_w v0 secret v1 ops (gh w) [] w (Sat.start w) (Row.ro H0) H1).mono fun v w' h => by obtain ⟨J, le, e, S⟩ := h; exact ⟨e.symm, S.fin le⟩
theorem own : ownKnob Tryz.prog.godebug = none := by kernel_rfl
theorem laidOut : laidOutB Tryz.prog = true := by kernel_rfl
set_option maxRecDepth 100000 in
theorem lifted (os : Os) (started : os.Started) (H : Type) (enc : TypeId × Value → H) :
    ReturnsInHanded {} Tryz.checked os 3 .any (Rows.sealedPlaysSpec.pre6 enc Tryz.prog Tryz.f3 Rows.sealedPlaysRow.domain false) (Rows.sealedPlaysSpec.post enc Tryz.prog Tryz.f3 false true false false) := by
  refine returnsInHanded_of_change (C := Tryz.checked) own started (by kernel_rfl) Tryz.func3
    (ChangeSpec.witness6 (enc := enc) (C := Tryz.checked) false ⟨#[], #[.slice none 0 0, .slice none 0 0], []⟩ 8 (by kernel_rfl) (by kernel_rfl) (by kernel_rfl) (by kernel_rfl)) ?_
  intro W base args ds gs before hval0 hW hcnd _
  have hval : ∀ (j : Nat) t v, Tryz.f3.params[j]? = some t → args[j]? = some v → Value.okWide Tryz.prog W .any base t v := hval0
  have hW' := hW
  obtain ⟨p, q, hA0, hV, rfl, hfz, hnd⟩ := hW
  have hA : DataW.TrodAll enc Tryz.prog W 0 (fun _ => true) true Tryz.f3.params.toList args.toList ds p := hA0
  rw [Tryz.params3] at hA hval
  obtain ⟨v0, vs0, d0, ds0, p0, q0, hargs, rfl, rfl, h0, r0⟩ := trodAll_cons hA
  obtain ⟨v1, vs1, d1, ds1, p1, q1, rfl, rfl, rfl, h1, r1⟩ := trodAll_cons r0
  obtain ⟨rfl, rfl, rfl⟩ := trodAll_nil r1
  obtain rfl : args = #[v0, v1] := by cases args; simp_all
  obtain ⟨rfl, rfl⟩ := trodVars_none hV
  have k0 := h0
  have lt0 : ∀ x ∈ p0, x.block < W.heap.size := by obtain ⟨m, hm⟩ := k0; exact DataW.trod_lt m _ _ _ hm
  obtain ⟨a0, len0, cap0, rfl⟩ := okWide_slice Tryz.underlying22 (hval 0 22 v0 rfl rfl)
  obtain ⟨b0, H0⟩ : ∃ l, Bs W (.slice a0 len0 cap0) l := by
    obtain ⟨fuel, hf⟩ := h0
    rcases open_ints Tryz.underlying22 Tryz.underlying5 (by kernel_rfl) hf with ⟨hcs, _⟩ | ⟨x, l, c, zs, hcs, _, hl, hm, hz, _, hcell, hwz⟩
    · simp [Value.cells] at hcs
      obtain ⟨rfl, rfl, rfl⟩ := hcs
      exact ⟨[], Row.nil W⟩
    · simp [Value.cells] at hcs
      obtain ⟨rfl, rfl, rfl⟩ := hcs
      exact bs_open hl hm (by simpa using hz) hcell hwz
  have k1 := h1
  have lt1 : ∀ x ∈ p1, x.block < W.heap.size := by obtain ⟨m, hm⟩ := k1; exact DataW.trod_lt m _ _ _ hm
  obtain ⟨a1, len1, cap1, rfl⟩ := okWide_slice Tryz.underlying23 (hval 1 23 v1 rfl rfl)
  obtain ⟨b1, H1⟩ : ∃ l, RoX (gh W) (.slice a1 len1 cap1) sopR l := by
    obtain ⟨fuel, hf⟩ := h1
    obtain ⟨l, v, hv, _, H⟩ := (Opn.list (τ := sopR) Tryz.underlying23 (by kernel_rfl) (by decide) opn_40) _ W _ _ _ _ _ hf
    simp [Value.cells] at hv
    subst hv
    exact ⟨l, H⟩
  clear hA0 hval0
  refine Calls.mono (SealedPlays_c (.slice a0 len0 cap0) b0 (.slice a1 len1 cap1) b1 W H0 H1) fun e W' ⟨v', he, hv, bel⟩ => ?_
  subst he
  subst hv
  exact ⟨_, rfl, _, _, _, [], _, [], hW', trodAll_mk1 (shut_bool Tryz.underlying4 _), (trodAll_cons_mk (Below.trod laidOut (by kernel_rfl) (of_decide_eq_true (by kernel_rfl)) k0 bel lt0) (trodAll_cons_mk (Below.trod laidOut (by kernel_rfl) (of_decide_eq_true (by kernel_rfl)) k1 bel lt1) trodAll_mk0)), rfl, bel.frame _, fun h => by cases h⟩
theorem over : Rows.sealedPlaysRow.holds Tryz.pinned (OpenSpec.ofChange Rows.sealedPlaysSpec) :=
  OpenClaim.holds_of_wide 3 Tryz.f3 rfl rfl rfl rfl rfl rfl rfl ⟨rfl, rfl, rfl, rfl, rfl⟩ rfl rfl rfl rfl rfl (by kernel_rfl) Tryz.func3 (by kernel_rfl)
    (of_decide_eq_true (by kernel_rfl)) (by unfold Func.isWrapper; first | (rw [if_pos (by decide +kernel)]; kernel_rfl) | (rw [if_neg (by decide +kernel)]; exact ⟨rfl, rfl⟩))
    (fun os started H enc _ => lifted os started H enc)
end Go.Proofs.YtoajodjcmeijgaaGreat.sealedPlays
namespace Go.Proofs.YtoajodjcmeijgaaGreat
theorem SealedPlays_holds : Rows.SealedPlaysSaid := sealedPlays.over
end Go.Proofs.YtoajodjcmeijgaaGreat
