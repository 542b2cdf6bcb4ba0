/-
  What is pending is pushed again as it was, byte by byte, till it is done.
  Its conditions: none: whatever the input, in whatever memory.
-/
import Derived.Test.YtanpinfhlbbjkaaGreatRows
import Derived.ProofKit
import Derived.OpenShut
import Derived.ShutString
import Derived.ChangeOld
import Derived.Test.YtanpinfhlbbjkaaGreatQClientAgainAnc
set_option linter.unusedVariables false
set_option linter.unusedSimpArgs false
namespace Go.Proofs.YtanpinfhlbbjkaaGreat.clientAgain
open Go.ChangeShapes Go.WideShapes Go.ChangeAt Go.RowKit Go.Ecal
open Go.ChangeMaps (open_string shut_string)
set_option maxRecDepth 100000 in
theorem opn_113 : Opn Tryz.prog 113 wrapR := fun enc w sp hd fuel cs x h => by
  obtain ⟨xs, n, _, _, hl, hxl, hf⟩ := DataW.trod_struct Tryz.underlying113 h
  have hlen : cs.length = 2 := hl.trans (by kernel_rfl)
  obtain ⟨c0, t0, rfl, l0⟩ := cons_of_len hlen
  obtain ⟨c1, t1, rfl, l1⟩ := cons_of_len l0
  obtain rfl := List.eq_nil_of_length_eq_zero l1
  have e0 : DataW.trod enc Tryz.prog w 0 sp hd n 3 [c0] = xs[0]? := Opn.part hf rfl rfl rfl (k := 1) (by kernel_rfl) rfl
  obtain ⟨a0, h0⟩ := Opn.field (Opn.int Tryz.underlying3) (by rw [hxl]; decide) e0
  have e1 : DataW.trod enc Tryz.prog w 0 sp hd n 26 [c1] = xs[1]? := Opn.part hf rfl rfl rfl (k := 1) (by kernel_rfl) rfl
  obtain ⟨a1, h1⟩ := Opn.field (Opn.bytes Tryz.underlying26 Tryz.underlying5 (by kernel_rfl)) (by rw [hxl]; decide) e1
  obtain ⟨q, rh0⟩ := h0; simp only [List.cons.injEq, and_true] at q; subst q
  obtain ⟨vh1, q, oh1, rh1⟩ := h1; simp only [List.cons.injEq, and_true] at q; subst q
  exact ⟨⟨a0, a1⟩, ⟨_, rfl, rh0, ⟨oh1, rh1⟩⟩⟩
set_option maxRecDepth 100000 in
theorem opn_29 : Opn Tryz.prog 29 entR := fun enc w sp hd fuel cs x h => by
  obtain ⟨xs, n, _, _, hl, hxl, hf⟩ := DataW.trod_struct Tryz.underlying29 h
  have hlen : cs.length = 9 := hl.trans (by kernel_rfl)
  obtain ⟨c0, t0, rfl, l0⟩ := cons_of_len hlen
  obtain ⟨c1, t1, rfl, l1⟩ := cons_of_len l0
  obtain ⟨c2, t2, rfl, l2⟩ := cons_of_len l1
  obtain ⟨c3, t3, rfl, l3⟩ := cons_of_len l2
  obtain ⟨c4, t4, rfl, l4⟩ := cons_of_len l3
  obtain ⟨c5, t5, rfl, l5⟩ := cons_of_len l4
  obtain ⟨c6, t6, rfl, l6⟩ := cons_of_len l5
  obtain ⟨c7, t7, rfl, l7⟩ := cons_of_len l6
  obtain ⟨c8, t8, rfl, l8⟩ := cons_of_len l7
  obtain rfl := List.eq_nil_of_length_eq_zero l8
  have e0 : DataW.trod enc Tryz.prog w 0 sp hd n 3 [c0] = xs[0]? := Opn.part hf rfl rfl rfl (k := 1) (by kernel_rfl) rfl
  obtain ⟨a0, h0⟩ := Opn.field (Opn.int Tryz.underlying3) (by rw [hxl]; decide) e0
  have e1 : DataW.trod enc Tryz.prog w 0 sp hd n 3 [c1] = xs[1]? := Opn.part hf rfl rfl rfl (k := 1) (by kernel_rfl) rfl
  obtain ⟨a1, h1⟩ := Opn.field (Opn.int Tryz.underlying3) (by rw [hxl]; decide) e1
  have e2 : DataW.trod enc Tryz.prog w 0 sp hd n 3 [c2] = xs[2]? := Opn.part hf rfl rfl rfl (k := 1) (by kernel_rfl) rfl
  obtain ⟨a2, h2⟩ := Opn.field (Opn.int Tryz.underlying3) (by rw [hxl]; decide) e2
  have e3 : DataW.trod enc Tryz.prog w 0 sp hd n 26 [c3] = xs[3]? := Opn.part hf rfl rfl rfl (k := 1) (by kernel_rfl) rfl
  obtain ⟨a3, h3⟩ := Opn.field (Opn.bytes Tryz.underlying26 Tryz.underlying5 (by kernel_rfl)) (by rw [hxl]; decide) e3
  have e4 : DataW.trod enc Tryz.prog w 0 sp hd n 26 [c4] = xs[4]? := Opn.part hf rfl rfl rfl (k := 1) (by kernel_rfl) rfl
  obtain ⟨a4, h4⟩ := Opn.field (Opn.bytes Tryz.underlying26 Tryz.underlying5 (by kernel_rfl)) (by rw [hxl]; decide) e4
  have e5 : DataW.trod enc Tryz.prog w 0 sp hd n 3 [c5] = xs[5]? := Opn.part hf rfl rfl rfl (k := 1) (by kernel_rfl) rfl
  obtain ⟨a5, h5⟩ := Opn.field (Opn.int Tryz.underlying3) (by rw [hxl]; decide) e5
  have e6 : DataW.trod enc Tryz.prog w 0 sp hd n 3 [c6] = xs[6]? := Opn.part hf rfl rfl rfl (k := 1) (by kernel_rfl) rfl
  obtain ⟨a6, h6⟩ := Opn.field (Opn.int Tryz.underlying3) (by rw [hxl]; decide) e6
  have e7 : DataW.trod enc Tryz.prog w 0 sp hd n 3 [c7] = xs[7]? := Opn.part hf rfl rfl rfl (k := 1) (by kernel_rfl) rfl
  obtain ⟨a7, h7⟩ := Opn.field (Opn.int Tryz.underlying3) (by rw [hxl]; decide) e7
  have e8 : DataW.trod enc Tryz.prog w 0 sp hd n 27 [c8] = xs[8]? := Opn.part hf rfl rfl rfl (k := 1) (by kernel_rfl) rfl
  obtain ⟨a8, h8⟩ := Opn.field (Opn.list (τ := wrapR) Tryz.underlying27 (by kernel_rfl) (by decide) opn_113) (by rw [hxl]; decide) e8
  obtain ⟨q, rh0⟩ := h0; simp only [List.cons.injEq, and_true] at q; subst q
  obtain ⟨q, rh1⟩ := h1; simp only [List.cons.injEq, and_true] at q; subst q
  obtain ⟨q, rh2⟩ := h2; simp only [List.cons.injEq, and_true] at q; subst q
  obtain ⟨vh3, q, oh3, rh3⟩ := h3; simp only [List.cons.injEq, and_true] at q; subst q
  obtain ⟨vh4, q, oh4, rh4⟩ := h4; simp only [List.cons.injEq, and_true] at q; subst q
  obtain ⟨q, rh5⟩ := h5; simp only [List.cons.injEq, and_true] at q; subst q
  obtain ⟨q, rh6⟩ := h6; simp only [List.cons.injEq, and_true] at q; subst q
  obtain ⟨q, rh7⟩ := h7; simp only [List.cons.injEq, and_true] at q; subst q
  obtain ⟨vh8, q, oh8, rh8⟩ := h8; simp only [List.cons.injEq, and_true] at q; subst q
  exact ⟨⟨a0, a1, a2, a3, a4, a5, a6, a7, a8⟩, ⟨_, _, _, rfl, rh0, rh1, rh2, ⟨oh3, rh3⟩, ⟨oh4, rh4⟩, rh5, rh6, rh7, ⟨oh8, rh8⟩⟩⟩
theorem ClientAgain_w (v0 : Value) (l : (List Entry)) (times : Int) (I : Gh) (R : List HP) (w : World) (S : Sat w I (R)) (Q0 : RoX I v0 entR l) (rtimes : -9223372036854775808 ≤ times ∧ times ≤ 9223372036854775807) : Ret Tryz.prog 3 [v0, .int .i64 times] w fun v w' => ∃ J : Gh, Gh.le I J ∧ .bool true = v ∧ Sat w' J (R) := by
  have lq0 := XRow.le (Q0.row S.le)
  refine ret_E Tryz.func3 rfl Tryz.ntmps3 (by simp) ?_
  refine g8 ?_
  refine yR (anchor_c _ _ _ S) ?_
  rintro _ w0 ⟨I0, le0, rfl, S0⟩
  refine vl _ rfl (dcF (r_not rfl) rfl) ?_
  refine g7 ?_
  refine yR (alone_c _ _ _ S0) ?_
  rintro _ w1 ⟨b0, p0, I1, le1, rfl, S1⟩
  refine g7 ?_
  refine vl (.bool false) rfl (r_eqptrnil rfl rfl U24) ?_
  refine g2 ?_
  refine gl 17 rfl rfl rfl rfl _ rfl (r_lenX rfl (Q0.row (lT (lT le0 le1) S1.le)) U22) ?_
  refine g12 ?_
  refine EC_cond (t := ((decide (8 < (l.length : Int))) || (decide (times < 1))) || (decide (5 < times))) rfl (fun h0 => ?_) (fun h0 => ?_)
  refine g3 ?_
  refine vl (.bool true) rfl (r_neqptrnil rfl rfl U24) ?_
  refine g5 ?_
  refine f1 Tryz.results3 ?_
  exact ⟨I1, (lT le0 le1), rfl, S1.dr0.dr0⟩
  have hg69 : l.length ≤ 8 ∧ 1 ≤ times ∧ times ≤ 5 := by simp at h0; omega
  refine g6 ?_
  refine vl _ rfl (r_lenX rfl (Q0.row (lT (lT le0 le1) S1.le)) U22) ?_
  refine g4 ?_
  refine EC_loop (fun m' E' w' => ∃ i : Nat, ∃ L : List Thing, ∃ c : Cli, ∃ J : Gh, m' = l.length - i ∧ E' 34 = .int .i64 (i : Int) ∧ E' 1 = .int .i64 times ∧ E' 5 = ptr b0 ∧ E' 32 = v0 ∧ E' 33 = .int .i64 (l.length : Int) ∧ (i ≤ l.length) ∧ (CGood L c i) ∧ Gh.le I1 J ∧ Sat w' J (Suite p0 L :: CliP (ptr b0) p0 c :: R)) _ ⟨0, (newR [] 1 1 1 []).1, newC [] 1 1 1 [], I1, rfl, rfl, rfl, rfl, rfl, rfl, Nat.zero_le _, CGood.begin, (Gh.le_refl _), S1.fr1⟩ ?_
  rintro _ E0 w2 ⟨i, L, c, I2, rfl, e0, e1, e2, e3, e4, hi, hg, le2, S2⟩
  refine g6 ?_
  refine EC_if rfl (fun h2 => ?_) (fun h2 => ?_)
  refine g6 ?_
  refine vl (ptr (blkOf v0) (offOf v0 + ((i : Int) : Int).toNat * 9)) rfl (r_indexX (by exact e3) (Q0.row (lT (lT (lT le0 le1) le2) S2.le)) (by exact e0) (by omega) as' U22 (by kernel_rfl)) ?_
  obtain ⟨a0, ha0⟩ := get_some (l := l) (j := ((i : Int) : Int).toNat) as'
  obtain ⟨cs0, hc0, he0⟩ := Q0.el ha0
  obtain ⟨v1, v2, v3, rfl, r0, r1, r2, ⟨o0, H0⟩, ⟨o1, H1⟩, r3, r4, r5, ⟨o2, H2⟩⟩ := hc0
  refine vl (.agg ((entRC a0 v1 v2 v3)).toArray) rfl (r_loadR (cs := (entRC a0 v1 v2 v3)) rfl (he0 _ (lT (lT (lT le0 le1) le2) S2.le)) U29 rfl (by kernel_rfl)) ?_
  refine yN entR0 S2 ?_
  intro b1 w3 S3
  refine yW0 S3 ?_ (h1 := ones_cons rfl (ones_cons rfl (ones_cons rfl (ones_cons o0 (ones_cons o1 (ones_cons rfl (ones_cons rfl (ones_cons rfl (ones_cons o2 ones_nil)))))))))
  intro w4 S4
  refine g6 ?_
  refine yR (Small_c (entRC a0 v1 v2 v3) a0 _ _ _ S4 ⟨v1, v2, v3, rfl, ad, ad, ad, ⟨o0, (H0.up (lT (lT le0 le1) le2))⟩, ⟨o1, (H1.up (lT (lT le0 le1) le2))⟩, ad, ad, ad, ⟨o2, (H2.up (lT (lT le0 le1) le2))⟩⟩) ?_
  rintro _ w5 ⟨rfl, S5⟩
  refine g3 ?_
  refine EC_cond (t := !(smallE a0)) rfl (fun h3 => ?_) (fun h3 => ?_)
  simp only [Bool.and_eq_true, Bool.or_eq_true, Bool.not_eq_true', Bool.not_eq_false', decide_eq_true_eq, decide_eq_false_iff_not, Bool.and_eq_false_iff, Bool.or_eq_false_iff, Bool.not_eq_true, Bool.not_eq_false, bne_iff_ne, beq_iff_eq, beq_eq_false_iff_ne] at h3
  refine g12 ?_
  refine f1 Tryz.results3 ?_
  exact ⟨I2, (lT (lT le0 le1) le2), rfl, S5.dr0.dr0.dr0⟩
  simp only [Bool.and_eq_true, Bool.or_eq_true, Bool.not_eq_true', Bool.not_eq_false', decide_eq_true_eq, decide_eq_false_iff_not, Bool.and_eq_false_iff, Bool.or_eq_false_iff, Bool.not_eq_true, Bool.not_eq_false, bne_iff_ne, beq_iff_eq, beq_eq_false_iff_ne] at h3
  refine g5 ?_
  refine yR (LIssue_c _ _ _ (entRC a0 v1 v2 v3) a0 _ _ _ _ S5.fr1.fr2 ⟨v1, v2, v3, rfl, ad, ad, ad, ⟨o0, (H0.up (lT (lT le0 le1) le2))⟩, ⟨o1, (H1.up (lT (lT le0 le1) le2))⟩, ad, ad, ad, ⟨o2, (H2.up (lT (lT le0 le1) le2))⟩⟩ (by have := hg.len; omega)) ?_
  rintro _ w6 ⟨I3, le3, rfl, S6⟩
  refine g4 ?_
  refine EL_int ((i : Int) + 1) rfl (r_addi (by exact e0) rfl (by omega)) ?_
  intro x0 hx84
  refine g3 ?_
  refine ⟨_, ?_, i + 1, c.issueL L a0, c.issueS L a0, I3, rfl, (Eq.trans (show _ = Value.int .i64 x0 from rfl) (congrArg _ (by omega))), (by exact e1), (by exact e2), (by exact e3), (by exact e4), by omega, hg.issue, (lT le2 le3), S6.dr2.fr1⟩
  first | omega | (simp; omega)
  refine g8 ?_
  refine yR (LPush_c _ _ _ _ _ _ S2.fr1) ?_
  rintro _ w7 ⟨v4, I4, le4, rfl, S7⟩
  have oH96 := (OwnX.one S7 0 rfl (by decide))
  obtain ⟨I5, le5, S8, H3⟩ := S7.fx0 (by decide)
  refine g15 ?_
  refine EC_loop (fun m' E' w' => ∃ k : Nat, ∃ J : Gh, m' = (times - k).toNat ∧ E' 51 = .int .i64 (k : Int) ∧ E' 5 = ptr b0 ∧ E' 8 = v4 ∧ E' 9 = .int .i64 c.pushE ∧ E' 50 = .int .i64 times ∧ ((k : Int) ≤ times) ∧ Gh.le I5 J ∧ Sat w' J (CliP (ptr b0) p0 c :: Suite p0 L :: R)) _ ⟨0, I5, rfl, rfl, (by exact e2), rfl, rfl, rfl, by omega, (Gh.le_refl _), S8⟩ ?_
  rintro _ E1 w8 ⟨k, I6, rfl, e5, e6, e7, e8, e9, hk, le6, S9⟩
  refine g6 ?_
  refine EC_if rfl (fun h4 => ?_) (fun h4 => ?_)
  refine g7 ?_
  refine yR (LPush_c _ _ _ _ _ _ S9) ?_
  rintro _ w9 ⟨v5, I7, le7, rfl, S10⟩
  have oH116 := (OwnX.one S10 0 rfl (by decide))
  obtain ⟨I8, le8, S11, H4⟩ := S10.fx0 (by decide)
  refine g8 ?_
  rcases Decidable.em ((c.pushR.length : Int) = 1) with h1 | h1
  refine EC_quietB (by kernel_rfl) (by kernel_rfl) ?_
  refine g1 ?_
  refine EQ_val _ rfl (fun _ hw => dcF (r_neq rfl rfl) (by simp [Cli.pushE, hg.al])) ?_
  refine g2 ?_
  refine EQ_gval 60 rfl rfl rfl rfl _ rfl (fun _ hw => dcF (r_neq rfl rfl) (by simp [Cli.pushE, hg.al])) ?_
  refine g3 ?_
  refine EQ_gval 64 rfl rfl rfl rfl (.int .i64 (c.pushR.length : Int)) rfl (fun _ hw => r_lenX rfl (XRow.below (H3.row (lT (lT (lT le6 le7) le8) S11.le)) (hp_below hw)) U33) ?_
  refine g1 ?_
  refine EQ_gval 64 rfl rfl rfl rfl (.int .i64 (c.pushR.length : Int)) rfl (fun _ hw => r_lenX rfl (XRow.below (H4.row S11.le) (hp_below hw)) U33) (EQ_gval 64 rfl rfl rfl rfl _ rfl (fun _ hw => dcF (r_neq rfl rfl) (by simp)) ?_)
  refine g3 ?_
  refine EQ_gval 71 rfl rfl rfl rfl (.int .i64 (c.pushR.length : Int)) rfl (fun _ hw => r_lenX rfl (XRow.below (H3.row (lT (lT (lT le6 le7) le8) S11.le)) (hp_below hw)) U33) (EQ_gval 71 rfl rfl rfl rfl _ rfl (fun _ hw => dcT (r_eql rfl rfl) (by simp [h1])) ?_)
  refine g2 ?_
  refine EQ_gval 75 rfl rfl rfl rfl (ptr (blkOf v4) (offOf v4 + (0 : Int).toNat * 1)) rfl (fun _ hw => r_indexX rfl (XRow.below (H3.row (lT (lT (lT le6 le7) le8) S11.le)) (hp_below hw)) rfl (by omega) as' U33 (by kernel_rfl)) ?_
  obtain ⟨a1, ha1⟩ := get_some (l := c.pushR) (j := (0 : Int).toNat) as'
  obtain ⟨cs1, hc1, he1⟩ := H3.el ha1
  obtain ⟨v6, rfl, o3, H5⟩ := hc1
  refine EQ_gval 75 rfl rfl rfl rfl v6 rfl (fun _ hw => r_load0 rfl (ElAt.below (he1 _ (lT (lT (lT le6 le7) le8) S11.le)) (hp_below hw)) U26 rfl) (EQ_gval 75 rfl rfl rfl rfl (.string (str a1)) rfl (fun _ hw => r_str rfl ((H5 _ (lT (lT (lT le6 le7) le8) S11.le)).below hw) U26 U5 U9) ?_)
  refine g1 ?_
  refine EQ_gval 75 rfl rfl rfl rfl (ptr (blkOf v5) (offOf v5 + (0 : Int).toNat * 1)) rfl (fun _ hw => r_indexX rfl (XRow.below (H4.row S11.le) (hp_below hw)) rfl (by omega) as' U33 (by kernel_rfl)) ?_
  obtain ⟨a2, ha2⟩ := get_some (l := c.pushR) (j := (0 : Int).toNat) as'
  obtain ⟨cs2, hc2, he2⟩ := H4.el ha2
  obtain ⟨v7, rfl, o4, H6⟩ := hc2
  refine EQ_gval 75 rfl rfl rfl rfl v7 rfl (fun _ hw => r_load0 rfl (ElAt.below (he2 _ S11.le) (hp_below hw)) U26 rfl) (EQ_gval 75 rfl rfl rfl rfl (.string (str a2)) rfl (fun _ hw => r_str rfl ((H6 _ S11.le).below hw) U26 U5 U9) (EQ_gval 75 rfl rfl rfl rfl _ rfl (fun _ hw => dcF (r_neqs rfl rfl) (decide_eq_false (fun q => q (Option.some.inj ((ha1).symm.trans ha2))))) ?_))
  refine g2 ?_
  refine yE S11 ?_
  intro w10 S12
  refine g6 ?_
  refine EL_int ((k : Int) + 1) rfl (r_addi (by exact e5) rfl (by omega)) ?_
  intro x1 hx136
  refine g3 ?_
  refine ⟨_, ?_, k + 1, I8, rfl, (Eq.trans (show _ = Value.int .i64 x1 from rfl) (congrArg _ (by omega))), (by exact e6), (by exact e7), (by exact e8), (by exact e9), by omega, (lT (lT le6 le7) le8), S12⟩
  first | omega | (simp; omega)
  refine EC_quietB (by kernel_rfl) (by kernel_rfl) ?_
  refine g1 ?_
  refine EQ_val _ rfl (fun _ hw => dcF (r_neq rfl rfl) (by simp [Cli.pushE, hg.al])) ?_
  refine g2 ?_
  refine EQ_gval 60 rfl rfl rfl rfl _ rfl (fun _ hw => dcF (r_neq rfl rfl) (by simp [Cli.pushE, hg.al])) ?_
  refine g3 ?_
  refine EQ_gval 64 rfl rfl rfl rfl (.int .i64 (c.pushR.length : Int)) rfl (fun _ hw => r_lenX rfl (XRow.below (H3.row (lT (lT (lT le6 le7) le8) S11.le)) (hp_below hw)) U33) ?_
  refine g1 ?_
  refine EQ_gval 64 rfl rfl rfl rfl (.int .i64 (c.pushR.length : Int)) rfl (fun _ hw => r_lenX rfl (XRow.below (H4.row S11.le) (hp_below hw)) U33) (EQ_gval 64 rfl rfl rfl rfl _ rfl (fun _ hw => dcF (r_neq rfl rfl) (by simp)) ?_)
  refine g3 ?_
  refine EQ_gval 71 rfl rfl rfl rfl (.int .i64 (c.pushR.length : Int)) rfl (fun _ hw => r_lenX rfl (XRow.below (H3.row (lT (lT (lT le6 le7) le8) S11.le)) (hp_below hw)) U33) (EQ_gval 71 rfl rfl rfl rfl _ rfl (fun _ hw => dcF (r_eql rfl rfl) (by simp [h1])) ?_)
  refine g12 ?_
  refine yE S11 ?_
  intro w11 S13
  refine g6 ?_
  refine EL_int ((k : Int) + 1) rfl (r_addi (by exact e5) rfl (by omega)) ?_
  intro x2 hx140
  refine g3 ?_
  refine ⟨_, ?_, k + 1, I8, rfl, (Eq.trans (show _ = Value.int .i64 x2 from rfl) (congrArg _ (by omega))), (by exact e6), (by exact e7), (by exact e8), (by exact e9), by omega, (lT (lT le6 le7) le8), S13⟩
  first | omega | (simp; omega)
  refine g11 ?_
  refine f1 Tryz.results3 ?_
  exact ⟨I6, (lT (lT (lT (lT (lT le0 le1) le2) le4) le5) le6), rfl, S9.dr0.dr0⟩
theorem ClientAgain_c (v0 : Value) (l : (List Entry)) (times : Int) (w : World) (H0 : RoX (gh w) v0 entR l) (rtimes : -9223372036854775808 ≤ times ∧ times ≤ 9223372036854775807) : Ret Tryz.prog 3 [v0, .int .i64 times] w fun v w' => v = .bool true ∧ Below w.heap.size w w' :=
  (ClientAgain_w v0 l times (gh w) [] w (Sat.start w) H0 rtimes).mono fun v w' h => by obtain ⟨J, le, e, S⟩ := h; exact ⟨e.symm, S.fin le⟩
theorem own : ownKnob Tryz.prog.godebug = none := by kernel_rfl
theorem laidOut : laidOutB Tryz.prog = true := by kernel_rfl
set_option maxRecDepth 100000 in
theorem lifted (os : Os) (started : os.Started) (H : Type) (enc : TypeId × Value → H) :
    ReturnsInHanded {} Tryz.checked os 3 .any (Rows.clientAgainSpec.pre6 enc Tryz.prog Tryz.f3 Rows.clientAgainRow.domain false) (Rows.clientAgainSpec.post enc Tryz.prog Tryz.f3 false true false false) := by
  refine returnsInHanded_of_change (C := Tryz.checked) own started (by kernel_rfl) Tryz.func3
    (ChangeSpec.witness6 (enc := enc) (C := Tryz.checked) false ⟨#[], #[.slice none 0 0, .int .i64 0], []⟩ 8 (by kernel_rfl) (by kernel_rfl) (by kernel_rfl) (by kernel_rfl)) ?_
  intro W base args ds gs before hval0 hW hcnd _
  have hval : ∀ (j : Nat) t v, Tryz.f3.params[j]? = some t → args[j]? = some v → Value.okWide Tryz.prog W .any base t v := hval0
  have hW' := hW
  obtain ⟨p, q, hA0, hV, rfl, hfz, hnd⟩ := hW
  have hA : DataW.TrodAll enc Tryz.prog W 0 (fun _ => true) true Tryz.f3.params.toList args.toList ds p := hA0
  rw [Tryz.params3] at hA hval
  obtain ⟨v0, vs0, d0, ds0, p0, q0, hargs, rfl, rfl, h0, r0⟩ := trodAll_cons hA
  obtain ⟨v1, vs1, d1, ds1, p1, q1, rfl, rfl, rfl, h1, r1⟩ := trodAll_cons r0
  obtain ⟨rfl, rfl, rfl⟩ := trodAll_nil r1
  obtain rfl : args = #[v0, v1] := by cases args; simp_all
  obtain ⟨rfl, rfl⟩ := trodVars_none hV
  have k0 := h0
  have lt0 : ∀ x ∈ p0, x.block < W.heap.size := by obtain ⟨m, hm⟩ := k0; exact DataW.trod_lt m _ _ _ hm
  obtain ⟨a0, len0, cap0, rfl⟩ := okWide_slice Tryz.underlying22 (hval 0 22 v0 rfl rfl)
  obtain ⟨b0, H0⟩ : ∃ l, RoX (gh W) (.slice a0 len0 cap0) entR l := by
    obtain ⟨fuel, hf⟩ := h0
    obtain ⟨l, v, hv, _, H⟩ := (Opn.list (τ := entR) Tryz.underlying22 (by kernel_rfl) (by decide) opn_29) _ W _ _ _ _ _ hf
    simp [Value.cells] at hv
    subst hv
    exact ⟨l, H⟩
  have k1 := h1
  have lt1 : ∀ x ∈ p1, x.block < W.heap.size := by obtain ⟨m, hm⟩ := k1; exact DataW.trod_lt m _ _ _ hm
  obtain ⟨a1, rfl, rfl, rfl, w1⟩ := open_int Tryz.underlying3 (hval 1 3 v1 rfl rfl) h1
  clear hA0 hval0
  refine Calls.mono (ClientAgain_c (.slice a0 len0 cap0) b0 a1 W H0 (rng_i64 w1)) fun e W' ⟨v', he, hv, bel⟩ => ?_
  subst he
  subst hv
  exact ⟨_, rfl, _, _, _, [], _, [], hW', trodAll_mk1 (shut_bool Tryz.underlying4 _), (trodAll_cons_mk (Below.trod laidOut (by kernel_rfl) (of_decide_eq_true (by kernel_rfl)) k0 bel lt0) (trodAll_cons_mk (Below.trod laidOut (by kernel_rfl) (of_decide_eq_true (by kernel_rfl)) k1 bel lt1) trodAll_mk0)), rfl, bel.frame _, fun h => by cases h⟩
theorem over : Rows.clientAgainRow.holds Tryz.pinned (OpenSpec.ofChange Rows.clientAgainSpec) :=
  OpenClaim.holds_of_wide 3 Tryz.f3 rfl rfl rfl rfl rfl rfl rfl ⟨rfl, rfl, rfl, rfl, rfl⟩ rfl rfl rfl rfl rfl (by kernel_rfl) Tryz.func3 (by kernel_rfl)
    (of_decide_eq_true (by kernel_rfl)) (by unfold Func.isWrapper; first | (rw [if_pos (by decide +kernel)]; kernel_rfl) | (rw [if_neg (by decide +kernel)]; exact ⟨rfl, rfl⟩))
    (fun os started H enc _ => lifted os started H enc)
end Go.Proofs.YtanpinfhlbbjkaaGreat.clientAgain
namespace Go.Proofs.YtanpinfhlbbjkaaGreat
theorem ClientAgain_holds : Rows.ClientAgainSaid := clientAgain.over
end Go.Proofs.YtanpinfhlbbjkaaGreat
