/-
  A frame that is refused changes nothing: nothing pending, nothing committed, no alarm.
  Its conditions: none: whatever the input, in whatever memory.
-/
import Derived.Test.YtanpinfhlbbjkaaGreatRows
import Derived.ProofKit
import Derived.OpenShut
import Derived.ShutString
import Derived.ChangeOld
import Derived.Test.YtanpinfhlbbjkaaGreatQClientStillAnc
set_option linter.unusedVariables false
set_option linter.unusedSimpArgs false
namespace Go.Proofs.YtanpinfhlbbjkaaGreat.clientStill
open Go.ChangeShapes Go.WideShapes Go.ChangeAt Go.RowKit Go.Ecal
open Go.ChangeMaps (open_string shut_string)
set_option maxRecDepth 100000
set_option maxRecDepth 100000 in
theorem opn_113 : Opn Tryz.prog 113 wrapR := fun enc w sp hd fuel cs x h => by
  obtain ⟨xs, n, _, _, hl, hxl, hf⟩ := DataW.trod_struct Tryz.underlying113 h
  have hlen : cs.length = 2 := hl.trans (by kernel_rfl)
  obtain ⟨c0, t0, rfl, l0⟩ := cons_of_len hlen
  obtain ⟨c1, t1, rfl, l1⟩ := cons_of_len l0
  obtain rfl := List.eq_nil_of_length_eq_zero l1
  have e0 : DataW.trod enc Tryz.prog w 0 sp hd n 3 [c0] = xs[0]? := Opn.part hf rfl rfl rfl (k := 1) (by kernel_rfl) rfl
  obtain ⟨a0, h0⟩ := Opn.field (Opn.int Tryz.underlying3) (by rw [hxl]; decide) e0
  have e1 : DataW.trod enc Tryz.prog w 0 sp hd n 26 [c1] = xs[1]? := Opn.part hf rfl rfl rfl (k := 1) (by kernel_rfl) rfl
  obtain ⟨a1, h1⟩ := Opn.field (Opn.bytes Tryz.underlying26 Tryz.underlying5 (by kernel_rfl)) (by rw [hxl]; decide) e1
  obtain ⟨q, rh0⟩ := h0; simp only [List.cons.injEq, and_true] at q; subst q
  obtain ⟨vh1, q, oh1, rh1⟩ := h1; simp only [List.cons.injEq, and_true] at q; subst q
  exact ⟨⟨a0, a1⟩, ⟨_, rfl, rh0, ⟨oh1, rh1⟩⟩⟩
set_option maxRecDepth 100000 in
theorem opn_29 : Opn Tryz.prog 29 entR := fun enc w sp hd fuel cs x h => by
  obtain ⟨xs, n, _, _, hl, hxl, hf⟩ := DataW.trod_struct Tryz.underlying29 h
  have hlen : cs.length = 9 := hl.trans (by kernel_rfl)
  obtain ⟨c0, t0, rfl, l0⟩ := cons_of_len hlen
  obtain ⟨c1, t1, rfl, l1⟩ := cons_of_len l0
  obtain ⟨c2, t2, rfl, l2⟩ := cons_of_len l1
  obtain ⟨c3, t3, rfl, l3⟩ := cons_of_len l2
  obtain ⟨c4, t4, rfl, l4⟩ := cons_of_len l3
  obtain ⟨c5, t5, rfl, l5⟩ := cons_of_len l4
  obtain ⟨c6, t6, rfl, l6⟩ := cons_of_len l5
  obtain ⟨c7, t7, rfl, l7⟩ := cons_of_len l6
  obtain ⟨c8, t8, rfl, l8⟩ := cons_of_len l7
  obtain rfl := List.eq_nil_of_length_eq_zero l8
  have e0 : DataW.trod enc Tryz.prog w 0 sp hd n 3 [c0] = xs[0]? := Opn.part hf rfl rfl rfl (k := 1) (by kernel_rfl) rfl
  obtain ⟨a0, h0⟩ := Opn.field (Opn.int Tryz.underlying3) (by rw [hxl]; decide) e0
  have e1 : DataW.trod enc Tryz.prog w 0 sp hd n 3 [c1] = xs[1]? := Opn.part hf rfl rfl rfl (k := 1) (by kernel_rfl) rfl
  obtain ⟨a1, h1⟩ := Opn.field (Opn.int Tryz.underlying3) (by rw [hxl]; decide) e1
  have e2 : DataW.trod enc Tryz.prog w 0 sp hd n 3 [c2] = xs[2]? := Opn.part hf rfl rfl rfl (k := 1) (by kernel_rfl) rfl
  obtain ⟨a2, h2⟩ := Opn.field (Opn.int Tryz.underlying3) (by rw [hxl]; decide) e2
  have e3 : DataW.trod enc Tryz.prog w 0 sp hd n 26 [c3] = xs[3]? := Opn.part hf rfl rfl rfl (k := 1) (by kernel_rfl) rfl
  obtain ⟨a3, h3⟩ := Opn.field (Opn.bytes Tryz.underlying26 Tryz.underlying5 (by kernel_rfl)) (by rw [hxl]; decide) e3
  have e4 : DataW.trod enc Tryz.prog w 0 sp hd n 26 [c4] = xs[4]? := Opn.part hf rfl rfl rfl (k := 1) (by kernel_rfl) rfl
  obtain ⟨a4, h4⟩ := Opn.field (Opn.bytes Tryz.underlying26 Tryz.underlying5 (by kernel_rfl)) (by rw [hxl]; decide) e4
  have e5 : DataW.trod enc Tryz.prog w 0 sp hd n 3 [c5] = xs[5]? := Opn.part hf rfl rfl rfl (k := 1) (by kernel_rfl) rfl
  obtain ⟨a5, h5⟩ := Opn.field (Opn.int Tryz.underlying3) (by rw [hxl]; decide) e5
  have e6 : DataW.trod enc Tryz.prog w 0 sp hd n 3 [c6] = xs[6]? := Opn.part hf rfl rfl rfl (k := 1) (by kernel_rfl) rfl
  obtain ⟨a6, h6⟩ := Opn.field (Opn.int Tryz.underlying3) (by rw [hxl]; decide) e6
  have e7 : DataW.trod enc Tryz.prog w 0 sp hd n 3 [c7] = xs[7]? := Opn.part hf rfl rfl rfl (k := 1) (by kernel_rfl) rfl
  obtain ⟨a7, h7⟩ := Opn.field (Opn.int Tryz.underlying3) (by rw [hxl]; decide) e7
  have e8 : DataW.trod enc Tryz.prog w 0 sp hd n 27 [c8] = xs[8]? := Opn.part hf rfl rfl rfl (k := 1) (by kernel_rfl) rfl
  obtain ⟨a8, h8⟩ := Opn.field (Opn.list (τ := wrapR) Tryz.underlying27 (by kernel_rfl) (by decide) opn_113) (by rw [hxl]; decide) e8
  obtain ⟨q, rh0⟩ := h0; simp only [List.cons.injEq, and_true] at q; subst q
  obtain ⟨q, rh1⟩ := h1; simp only [List.cons.injEq, and_true] at q; subst q
  obtain ⟨q, rh2⟩ := h2; simp only [List.cons.injEq, and_true] at q; subst q
  obtain ⟨vh3, q, oh3, rh3⟩ := h3; simp only [List.cons.injEq, and_true] at q; subst q
  obtain ⟨vh4, q, oh4, rh4⟩ := h4; simp only [List.cons.injEq, and_true] at q; subst q
  obtain ⟨q, rh5⟩ := h5; simp only [List.cons.injEq, and_true] at q; subst q
  obtain ⟨q, rh6⟩ := h6; simp only [List.cons.injEq, and_true] at q; subst q
  obtain ⟨q, rh7⟩ := h7; simp only [List.cons.injEq, and_true] at q; subst q
  obtain ⟨vh8, q, oh8, rh8⟩ := h8; simp only [List.cons.injEq, and_true] at q; subst q
  exact ⟨⟨a0, a1, a2, a3, a4, a5, a6, a7, a8⟩, ⟨_, _, _, rfl, rh0, rh1, rh2, ⟨oh3, rh3⟩, ⟨oh4, rh4⟩, rh5, rh6, rh7, ⟨oh8, rh8⟩⟩⟩
theorem ClientStill_w (v0 : Value) (l : (List Entry)) (v1 : Value) (b : List UInt8) (I : Gh) (R : List HP) (w : World) (S : Sat w I (R)) (Q0 : RoX I v0 entR l) (Q1 : RoB I v1 b) : Ret Tryz.prog 4 [v0, v1] w fun v w' => ∃ J : Gh, Gh.le I J ∧ .bool true = v ∧ Sat w' J (R) := by
  have lq0 := XRow.le (Q0.row S.le)
  have lq1 := RoB.le Q1 S.le
  refine ret_E Tryz.func4 rfl Tryz.ntmps4 (by simp) ?_
  refine g8 ?_
  refine yR (anchor_c _ _ _ S) ?_
  rintro _ w0 ⟨I0, le0, rfl, S0⟩
  refine vl _ rfl (dcF (r_not rfl) rfl) ?_
  refine g9 ?_
  refine vl _ rfl (r_lenX rfl (Q0.row (lT le0 S0.le)) U22) ?_
  refine g3 ?_
  refine EL_gite 18 rfl rfl rfl (.int .i64 (b.length : Int)) rfl (fun g16 => lenB (r_len (cond_of g16 rfl) (Q1 _ (lT le0 S0.le)) U26)) ?_
  refine g4 ?_
  refine EC_cond (t := (decide (8 < (l.length : Int))) || (decide (5000 < (b.length : Int)))) rfl (fun h0 => ?_) (fun h0 => ?_)
  refine g7 ?_
  refine f1 Tryz.results4 ?_
  exact ⟨I0, le0, rfl, S0⟩
  have hg240 : l.length ≤ 8 ∧ b.length ≤ 5000 := by simp at h0; omega
  refine g4 ?_
  refine yR (Signs_c _ _ _ S0) ?_
  rintro _ w1 ⟨p0, rfl, S1⟩
  have o0 := Suite.one S1
  refine vl _ rfl (gB [.int .i64 1, .int .i64 1, .int .i64 1, .slice none 0 0] st_42 (parts3 rfl rfl rfl) (fill_one rfl rfl rfl (fill_one rfl rfl rfl (fill_one rfl rfl rfl fill_end)))) ?_
  refine yR (LNew_c _ _ [.int .i64 1, .int .i64 1, .int .i64 1, .slice none 0 0] (⟨1, 1, 1, []⟩ : WhoT) _ _ _ S1 ⟨(.slice none 0 0), rfl, (by dsimp only; omega), (by dsimp only; omega), (by dsimp only; omega), ⟨rfl, Ro.nil⟩⟩ (by decide) (by decide) (by decide)) ?_
  rintro _ w2 ⟨b0, I1, le1, rfl, S2⟩
  have q0 : newC ([] : List Thing) (⟨1, 1, 1, []⟩ : WhoT).coll (⟨1, 1, 1, []⟩ : WhoT).founder (⟨1, 1, 1, []⟩ : WhoT).who (⟨1, 1, 1, []⟩ : WhoT).sec = newC [] 1 1 1 [] := rfl
  have S3 := Sat.ah0 (CliP (ptr b0) p0) S2 q0
  have q1 : (newR ([] : List Thing) (⟨1, 1, 1, []⟩ : WhoT).coll (⟨1, 1, 1, []⟩ : WhoT).founder (⟨1, 1, 1, []⟩ : WhoT).who (⟨1, 1, 1, []⟩ : WhoT).sec).1 = (newR [] 1 1 1 []).1 := rfl
  have S4 := Sat.ah1 (Suite p0) S3 q1
  refine g11 ?_
  refine vl (.bool false) rfl (r_dec (by decide) (r_neq rfl rfl)) ?_
  refine g9 ?_
  refine vl _ rfl (r_lenX rfl (Q0.row (lT (lT le0 le1) S4.le)) U22) ?_
  refine g4 ?_
  refine EC_loop (fun m' E' w' => ∃ i : Nat, ∃ L : List Thing, ∃ c : Cli, ∃ J : Gh, m' = l.length - i ∧ E' 33 = .int .i64 (i : Int) ∧ E' 1 = v1 ∧ E' 5 = ptr b0 ∧ E' 31 = v0 ∧ E' 32 = .int .i64 (l.length : Int) ∧ (i ≤ l.length) ∧ (CGood L c i) ∧ Gh.le I1 J ∧ Sat w' J (Suite p0 L :: CliP (ptr b0) p0 c :: R)) _ ⟨0, (newR [] 1 1 1 []).1, newC [] 1 1 1 [], I1, rfl, rfl, rfl, rfl, rfl, rfl, Nat.zero_le _, CGood.begin, (Gh.le_refl _), S4.fr1⟩ ?_
  rintro _ E0 w3 ⟨i, L, c, I2, rfl, e0, e1, e2, e3, e4, hi, hg, le2, S5⟩
  refine g6 ?_
  refine EC_if rfl (fun h2 => ?_) (fun h2 => ?_)
  refine g6 ?_
  refine vl (ptr (blkOf v0) (offOf v0 + ((i : Int) : Int).toNat * 9)) rfl (r_indexX (by exact e3) (Q0.row (lT (lT (lT le0 le1) le2) S5.le)) (by exact e0) (by omega) as' U22 (by kernel_rfl)) ?_
  obtain ⟨a0, ha0⟩ := get_some (l := l) (j := ((i : Int) : Int).toNat) as'
  obtain ⟨cs0, hc0, he0⟩ := Q0.el ha0
  obtain ⟨v2, v3, v4, rfl, r0, r1, r2, ⟨o1, H0⟩, ⟨o2, H1⟩, r3, r4, r5, ⟨o3, H2⟩⟩ := hc0
  refine vl (.agg ((entRC a0 v2 v3 v4)).toArray) rfl (r_loadR (cs := (entRC a0 v2 v3 v4)) rfl (he0 _ (lT (lT (lT le0 le1) le2) S5.le)) U29 rfl (by kernel_rfl)) ?_
  refine yN entR0 S5 ?_
  intro b1 w4 S6
  refine yW0 S6 ?_ (h1 := ones_cons rfl (ones_cons rfl (ones_cons rfl (ones_cons o1 (ones_cons o2 (ones_cons rfl (ones_cons rfl (ones_cons rfl (ones_cons o3 ones_nil)))))))))
  intro w5 S7
  refine g6 ?_
  refine yR (Small_c (entRC a0 v2 v3 v4) a0 _ _ _ S7 ⟨v2, v3, v4, rfl, ad, ad, ad, ⟨o1, (H0.up (lT (lT le0 le1) le2))⟩, ⟨o2, (H1.up (lT (lT le0 le1) le2))⟩, ad, ad, ad, ⟨o3, (H2.up (lT (lT le0 le1) le2))⟩⟩) ?_
  rintro _ w6 ⟨rfl, S8⟩
  refine g3 ?_
  refine EC_cond (t := !(smallE a0)) rfl (fun h3 => ?_) (fun h3 => ?_)
  simp only [Bool.and_eq_true, Bool.or_eq_true, Bool.not_eq_true', Bool.not_eq_false', decide_eq_true_eq, decide_eq_false_iff_not, Bool.and_eq_false_iff, Bool.or_eq_false_iff, Bool.not_eq_true, Bool.not_eq_false, bne_iff_ne, beq_iff_eq, beq_eq_false_iff_ne] at h3
  refine g12 ?_
  refine f1 Tryz.results4 ?_
  exact ⟨I2, (lT (lT le0 le1) le2), rfl, S8.dr0.dr0.dr0⟩
  simp only [Bool.and_eq_true, Bool.or_eq_true, Bool.not_eq_true', Bool.not_eq_false', decide_eq_true_eq, decide_eq_false_iff_not, Bool.and_eq_false_iff, Bool.or_eq_false_iff, Bool.not_eq_true, Bool.not_eq_false, bne_iff_ne, beq_iff_eq, beq_eq_false_iff_ne] at h3
  refine g5 ?_
  refine yR (LIssue_c _ _ _ (entRC a0 v2 v3 v4) a0 _ _ _ _ S8.fr1.fr2 ⟨v2, v3, v4, rfl, ad, ad, ad, ⟨o1, (H0.up (lT (lT le0 le1) le2))⟩, ⟨o2, (H1.up (lT (lT le0 le1) le2))⟩, ad, ad, ad, ⟨o3, (H2.up (lT (lT le0 le1) le2))⟩⟩ (by have := hg.len; omega)) ?_
  rintro _ w7 ⟨I3, le3, rfl, S9⟩
  refine g4 ?_
  refine EL_int ((i : Int) + 1) rfl (r_addi (by exact e0) rfl (by omega)) ?_
  intro x0 hx88
  refine g3 ?_
  refine ⟨_, ?_, i + 1, c.issueL L a0, c.issueS L a0, I3, rfl, (Eq.trans (show _ = Value.int .i64 x0 from rfl) (congrArg _ (by omega))), (by exact e1), (by exact e2), (by exact e3), (by exact e4), by omega, hg.issue, (lT le2 le3), S9.dr2.fr1⟩
  first | omega | (simp; omega)
  refine g8 ?_
  refine yR (LTally_c _ _ _ _ _ _ S5.fr1) ?_
  rintro _ w8 ⟨rfl, S10⟩
  have hbd94 : c.r.ch.links.length ≤ 64 ∧ c.pend.length ≤ 8 := ⟨hg.ok.r.links, hg.ok.pend8⟩
  refine g1 ?_
  refine yR (LHead_c _ _ _ _ _ _ S10) ?_
  rintro _ w9 ⟨cs1, I4, le4, rfl, h4, S11⟩
  obtain ⟨v5, rfl, r6, ⟨o4, H3⟩⟩ := h4
  refine yN [.int .i64 0, .slice none 0 0] S11 ?_
  intro b2 w10 S12
  refine g1 ?_
  refine yW0 S12 ?_ (h1 := ones_cons rfl (ones_cons o4 ones_nil))
  intro w11 S13
  refine g6 ?_
  refine yR (LTake_c _ _ _ _ _ _ _ _ _ S13.fr2.fr2 (Q1.up (lT (lT (lT le0 le1) le2) le4)) (by have := hg.len; omega) (texts_ok hg.txt)) ?_
  rintro _ w12 ⟨v6, I5, le5, rfl, S14⟩
  refine g14 ?_
  refine EC_if rfl (fun h5 => ?_) (fun h5 => ?_)
  have htk : c.takeE b = 0 := h5
  refine g3 ?_
  refine vl (.int .i64 ((c.takeO L b).length : Int)) rfl (lenF (r_len rfl (own_row (S14.own 0 rfl)) U48)) ?_
  refine g1 ?_
  refine yR (LHead_c _ _ _ _ _ _ S14.fr1) ?_
  rintro _ w13 ⟨cs2, I6, le6, rfl, h6, S15⟩
  obtain ⟨v7, rfl, r7, ⟨o5, H4⟩⟩ := h6
  refine vl (.int .i64 ((atV ((c.takeS L b).2).r.ch (((c.takeS L b).2).r.ch.links.length : Int)).index)) rfl (r_field rfl U46 rfl U3 rfl rfl) (vl _ rfl (dcT (r_eql rfl rfl) (decide_eq_true (hg.taken htk))) ?_)
  refine g5 ?_
  refine f1 Tryz.results4 ?_
  exact ⟨I6, (lT (lT (lT (lT (lT le0 le1) le2) le4) le5) le6), rfl, S15.dr0.dr0.dr0.dr0⟩
  have htk : ¬ c.takeE b = 0 := h5
  have hS : c.takeS L b = (L, c) := if_neg htk
  have hO : c.takeO L b = [] := if_neg htk
  refine g3 ?_
  have q2 : (c.takeS L b).2 = c := by rw [hS]
  have S16 := Sat.ah1 (CliP (ptr b0) p0) S14 q2
  have q3 : (c.takeS L b).1 = L := by rw [hS]
  have S17 := Sat.ah2 (Suite p0) S16 q3
  skip
  refine yJ 25 (fun w' => Row w' v6 ((c.takeO L b).map (Value.int .i64)) ∧ Arr w' b2 46 [.int .i64 ((atV c.r.ch (c.r.ch.links.length : Int)).index), v5]) S17 ?_
  intro w14 S18
  refine yT 0 S18.le ⟨own_row (S18.own 0 rfl), S18.a3⟩ ?_
  refine jT 1 rfl (by kernel_rfl) (.int .i64 ((c.takeO L b).length : Int)) rfl (fun _ hw ht => lenF (r_len rfl ht.1 U48)) ⟨S18.le, fun h => ⟨own_row (S18.own 0 rfl), S18.a3⟩⟩ ?_
  refine jT 2 rfl (by kernel_rfl) (.bool true) rfl (fun _ hw ht => r_dec (show (decide (((c.takeO L b).length : Int) = 0)) = true from (decide_eq_true (by rw [hO]; rfl))) (r_eql rfl rfl)) ⟨S18.le, fun h => ⟨own_row (S18.own 0 rfl), S18.a3⟩⟩ ?_
  refine yT 3 S18.le ⟨own_row (S18.own 0 rfl), S18.a3⟩ ?_
  refine yg 4 (yt S18.le ⟨own_row (S18.own 0 rfl), S18.a3⟩) ?_
  refine yg 6 (yt S18.le ⟨own_row (S18.own 0 rfl), S18.a3⟩) ?_
  refine y1 5 ?_
  refine yG (LTally_c _ _ _ _ _ _ S18.fr1) ?_
  rintro _ w15 ⟨rfl, S19⟩
  have hbd150 : c.r.ch.links.length ≤ 64 ∧ c.pend.length ≤ 8 := ⟨hg.ok.r.links, hg.ok.pend8⟩
  refine yn S19.le ⟨own_row (S19.own 1 rfl), S19.a3⟩ ?_
  refine jG 7 rfl (by kernel_rfl) 65 rfl rfl rfl rfl (.bool true) rfl (fun _ hw ht => r_dec (show (decide ((c.r.ch.links.length : Int) = (c.r.ch.links.length : Int)) && decide ((c.pend.length : Int) = (c.pend.length : Int))) = true from by simp) (r_ceql rfl rfl (fw_is (n := (c.r.ch.links.length : Int)) (by first | omega | exact (of_decide_eq_true (by kernel_rfl)))) (fw_is (n := (c.pend.length : Int)) (by first | omega | exact (of_decide_eq_true (by kernel_rfl)))) (fw_is (n := (c.r.ch.links.length : Int)) (by first | omega | exact (of_decide_eq_true (by kernel_rfl)))) (fw_is (n := (c.pend.length : Int)) (by first | omega | exact (of_decide_eq_true (by kernel_rfl)))))) ⟨S19.le, fun h => ⟨own_row (S19.own 1 rfl), S19.a3⟩⟩ ?_
  refine yT 8 S19.le ⟨own_row (S19.own 1 rfl), S19.a3⟩ ?_
  refine yT 9 S19.le ⟨own_row (S19.own 1 rfl), S19.a3⟩ ?_
  refine yg 10 (yt S19.le ⟨own_row (S19.own 1 rfl), S19.a3⟩) ?_
  refine yg 11 (yt S19.le ⟨own_row (S19.own 1 rfl), S19.a3⟩) ?_
  refine y1 12 ?_
  refine yG (LCmp_c _ _ _ [.int .i64 ((atV c.r.ch (c.r.ch.links.length : Int)).index), v5] (atV c.r.ch (c.r.ch.links.length : Int)) _ _ _ S19 ⟨v5, rfl, ad, ⟨o4, (H3.up le5)⟩⟩) ?_
  rintro _ w16 ⟨I7, le7, rfl, S20⟩
  have q4 : c.cmpS (atV c.r.ch (c.r.ch.links.length : Int)).index (atV c.r.ch (c.r.ch.links.length : Int)).sum = c := (cmpS_0 hg.cmp0)
  have S21 := Sat.ah0 (CliP (ptr b0) p0) S20 q4
  refine yn (lT le7 S21.le) ⟨own_row (S21.own 1 rfl), S21.a3⟩ ?_
  refine yu le7 ?_
  refine jG 13 rfl (by kernel_rfl) 71 rfl rfl rfl rfl (.bool true) rfl (fun _ hw ht => r_dec (show (decide ((c.cmpE (atV c.r.ch (c.r.ch.links.length : Int)).index (atV c.r.ch (c.r.ch.links.length : Int)).sum) = 0)) = true from (decide_eq_true hg.cmp0)) (r_eql rfl rfl)) ⟨S21.le, fun h => ⟨own_row (S21.own 1 rfl), S21.a3⟩⟩ ?_
  refine yT 14 S21.le ⟨own_row (S21.own 1 rfl), S21.a3⟩ ?_
  refine yT 15 S21.le ⟨own_row (S21.own 1 rfl), S21.a3⟩ ?_
  refine yg 16 (yt S21.le ⟨own_row (S21.own 1 rfl), S21.a3⟩) ?_
  refine yg 19 (yt S21.le ⟨own_row (S21.own 1 rfl), S21.a3⟩) ?_
  refine yg 20 (yt S21.le ⟨own_row (S21.own 1 rfl), S21.a3⟩) ?_
  refine y1 17 ?_
  refine yG (LHead_c _ _ _ _ _ _ S21) ?_
  rintro _ w17 ⟨cs3, I8, le8, rfl, h7, S22⟩
  obtain ⟨v8, rfl, r8, ⟨o6, H5⟩⟩ := h7
  refine yn (lT le8 S22.le) ⟨own_row (S22.own 1 rfl), S22.a3⟩ ?_
  refine yu le8 ?_
  refine jG 18 rfl (by kernel_rfl) 77 rfl rfl rfl rfl (.int .i64 ((atV c.r.ch (c.r.ch.links.length : Int)).index)) rfl (fun _ hw ht => r_field rfl U46 rfl U3 rfl rfl) ⟨S22.le, fun h => ⟨own_row (S22.own 1 rfl), S22.a3⟩⟩ ?_
  refine jG 21 rfl (by kernel_rfl) 77 rfl rfl rfl rfl (.bool true) rfl (fun _ hw ht => r_dec (show (decide (((atV c.r.ch (c.r.ch.links.length : Int)).index) = ((atV c.r.ch (c.r.ch.links.length : Int)).index))) = true from by simp) (r_eql rfl rfl)) ⟨S22.le, fun h => ⟨own_row (S22.own 1 rfl), S22.a3⟩⟩ ?_
  refine yT 22 S22.le ⟨own_row (S22.own 1 rfl), S22.a3⟩ ?_
  refine yT 23 S22.le ⟨own_row (S22.own 1 rfl), S22.a3⟩ ?_
  refine yg 24 (yt S22.le ⟨own_row (S22.own 1 rfl), S22.a3⟩) ?_
  refine y1 25 ?_
  refine yG (LAlarm_c _ _ _ _ _ _ S22) ?_
  rintro _ w18 ⟨rfl, S23⟩
  refine ym S23.le ?_
  refine EJ_gfloat 26 rfl (by kernel_rfl) (by kernel_rfl) (by kernel_rfl) rfl 85 rfl rfl rfl rfl (.bool true) rfl (fun _ hw => r_dec (show (!false) = true from rfl) (r_not (Eq.trans (show _ = Value.bool (c.alarm) from rfl) (congrArg Value.bool (show (c.alarm) = false from hg.al))))) ⟨S23.le, fun h => by cases h⟩ ?_
  refine yf 27 S23.le ?_
  refine yf 28 S23.le ?_
  refine yd ?_
  refine g2 ?_
  refine f1 Tryz.results4 ?_
  exact ⟨I8, (lT (lT (lT (lT (lT (lT le0 le1) le2) le4) le5) le7) le8), rfl, S23.dr0.dr0.dr0.dr0⟩
theorem ClientStill_c (v0 : Value) (l : (List Entry)) (v1 : Value) (b : List UInt8) (w : World) (H0 : RoX (gh w) v0 entR l) (H1 : Bs w v1 b) : Ret Tryz.prog 4 [v0, v1] w fun v w' => v = .bool true ∧ Below w.heap.size w w' :=
  (ClientStill_w v0 l v1 b (gh w) [] w (Sat.start w) H0 (Row.ro H1)).mono fun v w' h => by obtain ⟨J, le, e, S⟩ := h; exact ⟨e.symm, S.fin le⟩
theorem own : ownKnob Tryz.prog.godebug = none := by kernel_rfl
theorem laidOut : laidOutB Tryz.prog = true := by kernel_rfl
set_option maxRecDepth 100000 in
theorem lifted (os : Os) (started : os.Started) (H : Type) (enc : TypeId × Value → H) :
    ReturnsInHanded {} Tryz.checked os 4 .any (Rows.clientStillSpec.pre6 enc Tryz.prog Tryz.f4 Rows.clientStillRow.domain false) (Rows.clientStillSpec.post enc Tryz.prog Tryz.f4 false true false false) := by
  refine returnsInHanded_of_change (C := Tryz.checked) own started (by kernel_rfl) Tryz.func4
    (ChangeSpec.witness6 (enc := enc) (C := Tryz.checked) false ⟨#[], #[.slice none 0 0, .slice none 0 0], []⟩ 8 (by kernel_rfl) (by kernel_rfl) (by kernel_rfl) (by kernel_rfl)) ?_
  intro W base args ds gs before hval0 hW hcnd _
  have hval : ∀ (j : Nat) t v, Tryz.f4.params[j]? = some t → args[j]? = some v → Value.okWide Tryz.prog W .any base t v := hval0
  have hW' := hW
  obtain ⟨p, q, hA0, hV, rfl, hfz, hnd⟩ := hW
  have hA : DataW.TrodAll enc Tryz.prog W 0 (fun _ => true) true Tryz.f4.params.toList args.toList ds p := hA0
  rw [Tryz.params4] at hA hval
  obtain ⟨v0, vs0, d0, ds0, p0, q0, hargs, rfl, rfl, h0, r0⟩ := trodAll_cons hA
  obtain ⟨v1, vs1, d1, ds1, p1, q1, rfl, rfl, rfl, h1, r1⟩ := trodAll_cons r0
  obtain ⟨rfl, rfl, rfl⟩ := trodAll_nil r1
  obtain rfl : args = #[v0, v1] := by cases args; simp_all
  obtain ⟨rfl, rfl⟩ := trodVars_none hV
  have k0 := h0
  have lt0 : ∀ x ∈ p0, x.block < W.heap.size := by obtain ⟨m, hm⟩ := k0; exact DataW.trod_lt m _ _ _ hm
  obtain ⟨a0, len0, cap0, rfl⟩ := okWide_slice Tryz.underlying22 (hval 0 22 v0 rfl rfl)
  obtain ⟨b0, H0⟩ : ∃ l, RoX (gh W) (.slice a0 len0 cap0) entR l := by
    obtain ⟨fuel, hf⟩ := h0
    obtain ⟨l, v, hv, _, H⟩ := (Opn.list (τ := entR) Tryz.underlying22 (by kernel_rfl) (by decide) opn_29) _ W _ _ _ _ _ hf
    simp [Value.cells] at hv
    subst hv
    exact ⟨l, H⟩
  have k1 := h1
  have lt1 : ∀ x ∈ p1, x.block < W.heap.size := by obtain ⟨m, hm⟩ := k1; exact DataW.trod_lt m _ _ _ hm
  obtain ⟨a1, len1, cap1, rfl⟩ := okWide_slice Tryz.underlying26 (hval 1 26 v1 rfl rfl)
  obtain ⟨b1, H1⟩ : ∃ l, Bs W (.slice a1 len1 cap1) l := by
    obtain ⟨fuel, hf⟩ := h1
    rcases open_ints Tryz.underlying26 Tryz.underlying5 (by kernel_rfl) hf with ⟨hcs, _⟩ | ⟨x, l, c, zs, hcs, _, hl, hm, hz, _, hcell, hwz⟩
    · simp [Value.cells] at hcs
      obtain ⟨rfl, rfl, rfl⟩ := hcs
      exact ⟨[], Row.nil W⟩
    · simp [Value.cells] at hcs
      obtain ⟨rfl, rfl, rfl⟩ := hcs
      exact bs_open hl hm (by simpa using hz) hcell hwz
  clear hA0 hval0
  refine Calls.mono (ClientStill_c (.slice a0 len0 cap0) b0 (.slice a1 len1 cap1) b1 W H0 H1) fun e W' ⟨v', he, hv, bel⟩ => ?_
  subst he
  subst hv
  exact ⟨_, rfl, _, _, _, [], _, [], hW', trodAll_mk1 (shut_bool Tryz.underlying4 _), (trodAll_cons_mk (Below.trod laidOut (by kernel_rfl) (of_decide_eq_true (by kernel_rfl)) k0 bel lt0) (trodAll_cons_mk (Below.trod laidOut (by kernel_rfl) (of_decide_eq_true (by kernel_rfl)) k1 bel lt1) trodAll_mk0)), rfl, bel.frame _, fun h => by cases h⟩
theorem over : Rows.clientStillRow.holds Tryz.pinned (OpenSpec.ofChange Rows.clientStillSpec) :=
  OpenClaim.holds_of_wide 4 Tryz.f4 rfl rfl rfl rfl rfl rfl rfl ⟨rfl, rfl, rfl, rfl, rfl⟩ rfl rfl rfl rfl rfl (by kernel_rfl) Tryz.func4 (by kernel_rfl)
    (of_decide_eq_true (by kernel_rfl)) (by unfold Func.isWrapper; first | (rw [if_pos (by decide +kernel)]; kernel_rfl) | (rw [if_neg (by decide +kernel)]; exact ⟨rfl, rfl⟩))
    (fun os started H enc _ => lifted os started H enc)
end Go.Proofs.YtanpinfhlbbjkaaGreat.clientStill
namespace Go.Proofs.YtanpinfhlbbjkaaGreat
theorem ClientStill_holds : Rows.ClientStillSaid := clientStill.over
end Go.Proofs.YtanpinfhlbbjkaaGreat
