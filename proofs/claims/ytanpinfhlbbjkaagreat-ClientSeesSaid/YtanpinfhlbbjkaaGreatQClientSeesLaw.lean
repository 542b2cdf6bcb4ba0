/-
  What is issued is seen at once, as if it were committed behind all that is pending, and isn't committed by that.
  Its conditions: none: whatever the input, in whatever memory.
-/
import Derived.Test.YtanpinfhlbbjkaaGreatRows
import Derived.ProofKit
import Derived.OpenShut
import Derived.ShutString
import Derived.ChangeOld
import Derived.Test.YtanpinfhlbbjkaaGreatQClientSeesAnc
import Derived.Test.YtanpinfhlbbjkaaGreatQClientSeesDocE
import Derived.Test.YtanpinfhlbbjkaaGreatQClientSeesLaw18D
set_option linter.unusedVariables false
set_option linter.unusedSimpArgs false
namespace Go.Proofs.YtanpinfhlbbjkaaGreat.clientSees
open Go.ChangeShapes Go.WideShapes Go.ChangeAt Go.RowKit Go.Ecal
open Go.ChangeMaps (open_string shut_string)
set_option maxRecDepth 100000
set_option maxRecDepth 100000 in
theorem opn_113 : Opn Tryz.prog 113 wrapR := fun enc w sp hd fuel cs x h => by
  obtain ⟨xs, n, _, _, hl, hxl, hf⟩ := DataW.trod_struct Tryz.underlying113 h
  have hlen : cs.length = 2 := hl.trans (by kernel_rfl)
  obtain ⟨c0, t0, rfl, l0⟩ := cons_of_len hlen
  obtain ⟨c1, t1, rfl, l1⟩ := cons_of_len l0
  obtain rfl := List.eq_nil_of_length_eq_zero l1
  have e0 : DataW.trod enc Tryz.prog w 0 sp hd n 3 [c0] = xs[0]? := Opn.part hf rfl rfl rfl (k := 1) (by kernel_rfl) rfl
  obtain ⟨a0, h0⟩ := Opn.field (Opn.int Tryz.underlying3) (by rw [hxl]; decide) e0
  have e1 : DataW.trod enc Tryz.prog w 0 sp hd n 26 [c1] = xs[1]? := Opn.part hf rfl rfl rfl (k := 1) (by kernel_rfl) rfl
  obtain ⟨a1, h1⟩ := Opn.field (Opn.bytes Tryz.underlying26 Tryz.underlying5 (by kernel_rfl)) (by rw [hxl]; decide) e1
  obtain ⟨q, rh0⟩ := h0; simp only [List.cons.injEq, and_true] at q; subst q
  obtain ⟨vh1, q, oh1, rh1⟩ := h1; simp only [List.cons.injEq, and_true] at q; subst q
  exact ⟨⟨a0, a1⟩, ⟨_, rfl, rh0, ⟨oh1, rh1⟩⟩⟩
set_option maxRecDepth 100000 in
theorem opn_29 : Opn Tryz.prog 29 entR := fun enc w sp hd fuel cs x h => by
  obtain ⟨xs, n, _, _, hl, hxl, hf⟩ := DataW.trod_struct Tryz.underlying29 h
  have hlen : cs.length = 9 := hl.trans (by kernel_rfl)
  obtain ⟨c0, t0, rfl, l0⟩ := cons_of_len hlen
  obtain ⟨c1, t1, rfl, l1⟩ := cons_of_len l0
  obtain ⟨c2, t2, rfl, l2⟩ := cons_of_len l1
  obtain ⟨c3, t3, rfl, l3⟩ := cons_of_len l2
  obtain ⟨c4, t4, rfl, l4⟩ := cons_of_len l3
  obtain ⟨c5, t5, rfl, l5⟩ := cons_of_len l4
  obtain ⟨c6, t6, rfl, l6⟩ := cons_of_len l5
  obtain ⟨c7, t7, rfl, l7⟩ := cons_of_len l6
  obtain ⟨c8, t8, rfl, l8⟩ := cons_of_len l7
  obtain rfl := List.eq_nil_of_length_eq_zero l8
  have e0 : DataW.trod enc Tryz.prog w 0 sp hd n 3 [c0] = xs[0]? := Opn.part hf rfl rfl rfl (k := 1) (by kernel_rfl) rfl
  obtain ⟨a0, h0⟩ := Opn.field (Opn.int Tryz.underlying3) (by rw [hxl]; decide) e0
  have e1 : DataW.trod enc Tryz.prog w 0 sp hd n 3 [c1] = xs[1]? := Opn.part hf rfl rfl rfl (k := 1) (by kernel_rfl) rfl
  obtain ⟨a1, h1⟩ := Opn.field (Opn.int Tryz.underlying3) (by rw [hxl]; decide) e1
  have e2 : DataW.trod enc Tryz.prog w 0 sp hd n 3 [c2] = xs[2]? := Opn.part hf rfl rfl rfl (k := 1) (by kernel_rfl) rfl
  obtain ⟨a2, h2⟩ := Opn.field (Opn.int Tryz.underlying3) (by rw [hxl]; decide) e2
  have e3 : DataW.trod enc Tryz.prog w 0 sp hd n 26 [c3] = xs[3]? := Opn.part hf rfl rfl rfl (k := 1) (by kernel_rfl) rfl
  obtain ⟨a3, h3⟩ := Opn.field (Opn.bytes Tryz.underlying26 Tryz.underlying5 (by kernel_rfl)) (by rw [hxl]; decide) e3
  have e4 : DataW.trod enc Tryz.prog w 0 sp hd n 26 [c4] = xs[4]? := Opn.part hf rfl rfl rfl (k := 1) (by kernel_rfl) rfl
  obtain ⟨a4, h4⟩ := Opn.field (Opn.bytes Tryz.underlying26 Tryz.underlying5 (by kernel_rfl)) (by rw [hxl]; decide) e4
  have e5 : DataW.trod enc Tryz.prog w 0 sp hd n 3 [c5] = xs[5]? := Opn.part hf rfl rfl rfl (k := 1) (by kernel_rfl) rfl
  obtain ⟨a5, h5⟩ := Opn.field (Opn.int Tryz.underlying3) (by rw [hxl]; decide) e5
  have e6 : DataW.trod enc Tryz.prog w 0 sp hd n 3 [c6] = xs[6]? := Opn.part hf rfl rfl rfl (k := 1) (by kernel_rfl) rfl
  obtain ⟨a6, h6⟩ := Opn.field (Opn.int Tryz.underlying3) (by rw [hxl]; decide) e6
  have e7 : DataW.trod enc Tryz.prog w 0 sp hd n 3 [c7] = xs[7]? := Opn.part hf rfl rfl rfl (k := 1) (by kernel_rfl) rfl
  obtain ⟨a7, h7⟩ := Opn.field (Opn.int Tryz.underlying3) (by rw [hxl]; decide) e7
  have e8 : DataW.trod enc Tryz.prog w 0 sp hd n 27 [c8] = xs[8]? := Opn.part hf rfl rfl rfl (k := 1) (by kernel_rfl) rfl
  obtain ⟨a8, h8⟩ := Opn.field (Opn.list (τ := wrapR) Tryz.underlying27 (by kernel_rfl) (by decide) opn_113) (by rw [hxl]; decide) e8
  obtain ⟨q, rh0⟩ := h0; simp only [List.cons.injEq, and_true] at q; subst q
  obtain ⟨q, rh1⟩ := h1; simp only [List.cons.injEq, and_true] at q; subst q
  obtain ⟨q, rh2⟩ := h2; simp only [List.cons.injEq, and_true] at q; subst q
  obtain ⟨vh3, q, oh3, rh3⟩ := h3; simp only [List.cons.injEq, and_true] at q; subst q
  obtain ⟨vh4, q, oh4, rh4⟩ := h4; simp only [List.cons.injEq, and_true] at q; subst q
  obtain ⟨q, rh5⟩ := h5; simp only [List.cons.injEq, and_true] at q; subst q
  obtain ⟨q, rh6⟩ := h6; simp only [List.cons.injEq, and_true] at q; subst q
  obtain ⟨q, rh7⟩ := h7; simp only [List.cons.injEq, and_true] at q; subst q
  obtain ⟨vh8, q, oh8, rh8⟩ := h8; simp only [List.cons.injEq, and_true] at q; subst q
  exact ⟨⟨a0, a1, a2, a3, a4, a5, a6, a7, a8⟩, ⟨_, _, _, rfl, rh0, rh1, rh2, ⟨oh3, rh3⟩, ⟨oh4, rh4⟩, rh5, rh6, rh7, ⟨oh8, rh8⟩⟩⟩
theorem ClientSees_w (v0 : Value) (l : (List Entry)) (I : Gh) (R : List HP) (w : World) (S : Sat w I (R)) (Q0 : RoX I v0 entR l) : Ret Tryz.prog 7 [v0] w fun v w' => ∃ J : Gh, Gh.le I J ∧ .bool true = v ∧ Sat w' J (R) := by
  have lq0 := XRow.le (Q0.row S.le)
  refine ret_E Tryz.func7 rfl Tryz.ntmps7 (by simp) ?_
  refine g8 ?_
  refine yR (anchor_c _ _ _ S) ?_
  rintro _ w0 ⟨I0, le0, rfl, S0⟩
  refine vl _ rfl (dcF (r_not rfl) rfl) ?_
  refine g9 ?_
  refine vl _ rfl (r_lenX rfl (Q0.row (lT le0 S0.le)) U22) ?_
  refine g3 ?_
  refine EC_if rfl (fun h0 => ?_) (fun h0 => ?_)
  refine g7 ?_
  refine f1 Tryz.results7 ?_
  exact ⟨I0, le0, rfl, S0⟩
  have hg212 : l.length ≤ 12 := by simp at h0; omega
  refine g4 ?_
  refine yR (Signs_c _ _ _ S0) ?_
  rintro _ w1 ⟨p0, rfl, S1⟩
  have o0 := Suite.one S1
  refine vl _ rfl (gB [.int .i64 1, .int .i64 1, .int .i64 1, .slice none 0 0] st_42 (parts3 rfl rfl rfl) (fill_one rfl rfl rfl (fill_one rfl rfl rfl (fill_one rfl rfl rfl fill_end)))) ?_
  refine yR (LNew_c _ _ [.int .i64 1, .int .i64 1, .int .i64 1, .slice none 0 0] (⟨1, 1, 1, []⟩ : WhoT) _ _ _ S1 ⟨(.slice none 0 0), rfl, (by dsimp only; omega), (by dsimp only; omega), (by dsimp only; omega), ⟨rfl, Ro.nil⟩⟩ (by decide) (by decide) (by decide)) ?_
  rintro _ w2 ⟨b0, I1, le1, rfl, S2⟩
  have q0 : newC ([] : List Thing) (⟨1, 1, 1, []⟩ : WhoT).coll (⟨1, 1, 1, []⟩ : WhoT).founder (⟨1, 1, 1, []⟩ : WhoT).who (⟨1, 1, 1, []⟩ : WhoT).sec = newC [] 1 1 1 [] := rfl
  have S3 := Sat.ah0 (CliP (ptr b0) p0) S2 q0
  have q1 : (newR ([] : List Thing) (⟨1, 1, 1, []⟩ : WhoT).coll (⟨1, 1, 1, []⟩ : WhoT).founder (⟨1, 1, 1, []⟩ : WhoT).who (⟨1, 1, 1, []⟩ : WhoT).sec).1 = (newR [] 1 1 1 []).1 := rfl
  have S4 := Sat.ah1 (Suite p0) S3 q1
  refine g11 ?_
  refine vl (.bool false) rfl (r_dec (by decide) (r_neq rfl rfl)) ?_
  refine g14 ?_
  refine vl _ rfl (r_lenX rfl (Q0.row (lT (lT le0 le1) S4.le)) U22) ?_
  refine g4 ?_
  refine EC_loop (fun m' E' w' => ∃ i : Nat, ∃ L : List Thing, ∃ c : Cli, ∃ wv : Value, ∃ J : Gh, m' = l.length - i ∧ E' 25 = .int .i64 (i : Int) ∧ E' 5 = wv ∧ E' 3 = ptr b0 ∧ E' 23 = v0 ∧ E' 24 = .int .i64 (l.length : Int) ∧ (i ≤ l.length) ∧ (CGood L c i) ∧ (RiseD c.view.2) ∧ (wv.oneCell' = true) ∧ Gh.le I1 J ∧ RoX J wv docR c.view.2 ∧ Sat w' J (Suite p0 L :: CliP (ptr b0) p0 c :: R)) _ ⟨0, (newR [] 1 1 1 []).1, newC [] 1 1 1 [], .slice none 0 0, I1, rfl, rfl, rfl, rfl, rfl, rfl, Nat.zero_le _, CGood.begin, (show RiseD [] from .nil), rfl, (Gh.le_refl _), RoX.nil, S4.fr1⟩ ?_
  rintro _ E0 w3 ⟨i, L, c, wv, I2, rfl, e0, e1, e2, e3, e4, hi, hg, hri, owv, le2, H0, S5⟩
  refine g6 ?_
  refine EC_if rfl (fun h2 => ?_) (fun h2 => ?_)
  refine g6 ?_
  refine vl (ptr (blkOf v0) (offOf v0 + ((i : Int) : Int).toNat * 9)) rfl (r_indexX (by exact e3) (Q0.row (lT (lT (lT le0 le1) le2) S5.le)) (by exact e0) (by omega) as' U22 (by kernel_rfl)) ?_
  obtain ⟨a0, ha0⟩ := get_some (l := l) (j := ((i : Int) : Int).toNat) as'
  obtain ⟨cs0, hc0, he0⟩ := Q0.el ha0
  obtain ⟨v1, v2, v3, rfl, r0, r1, r2, ⟨o1, H1⟩, ⟨o2, H2⟩, r3, r4, r5, ⟨o3, H3⟩⟩ := hc0
  refine vl (.agg ((entRC a0 v1 v2 v3)).toArray) rfl (r_loadR (cs := (entRC a0 v1 v2 v3)) rfl (he0 _ (lT (lT (lT le0 le1) le2) S5.le)) U29 rfl (by kernel_rfl)) ?_
  refine yN entR0 S5 ?_
  intro b1 w4 S6
  refine yW0 S6 ?_ (h1 := ones_cons rfl (ones_cons rfl (ones_cons rfl (ones_cons o1 (ones_cons o2 (ones_cons rfl (ones_cons rfl (ones_cons rfl (ones_cons o3 ones_nil)))))))))
  intro w5 S7
  refine g6 ?_
  refine yR (Small_c (entRC a0 v1 v2 v3) a0 _ _ _ S7 ⟨v1, v2, v3, rfl, ad, ad, ad, ⟨o1, (H1.up (lT (lT le0 le1) le2))⟩, ⟨o2, (H2.up (lT (lT le0 le1) le2))⟩, ad, ad, ad, ⟨o3, (H3.up (lT (lT le0 le1) le2))⟩⟩) ?_
  rintro _ w6 ⟨rfl, S8⟩
  refine g3 ?_
  refine EC_cond (t := !(smallE a0)) rfl (fun h3 => ?_) (fun h3 => ?_)
  simp only [Bool.and_eq_true, Bool.or_eq_true, Bool.not_eq_true', Bool.not_eq_false', decide_eq_true_eq, decide_eq_false_iff_not, Bool.and_eq_false_iff, Bool.or_eq_false_iff, Bool.not_eq_true, Bool.not_eq_false, bne_iff_ne, beq_iff_eq, beq_eq_false_iff_ne] at h3
  refine g12 ?_
  refine f1 Tryz.results7 ?_
  exact ⟨I2, (lT (lT le0 le1) le2), rfl, S8.dr0.dr0.dr0⟩
  simp only [Bool.and_eq_true, Bool.or_eq_true, Bool.not_eq_true', Bool.not_eq_false', decide_eq_true_eq, decide_eq_false_iff_not, Bool.and_eq_false_iff, Bool.or_eq_false_iff, Bool.not_eq_true, Bool.not_eq_false, bne_iff_ne, beq_iff_eq, beq_eq_false_iff_ne] at h3
  refine g7 ?_
  refine yR (LIssue_c _ _ _ (entRC a0 v1 v2 v3) a0 _ _ _ _ S8.fr1.fr2 ⟨v1, v2, v3, rfl, ad, ad, ad, ⟨o1, (H1.up (lT (lT le0 le1) le2))⟩, ⟨o2, (H2.up (lT (lT le0 le1) le2))⟩, ad, ad, ad, ⟨o3, (H3.up (lT (lT le0 le1) le2))⟩⟩ (by have := hg.len; omega)) ?_
  rintro _ w7 ⟨I3, le3, rfl, S9⟩
  refine g3 ?_
  refine EC_if rfl (fun h4 => ?_) (fun h4 => ?_)
  have hi0 : c.issueE a0 = 0 := h4
  have hso := sees_ok (L := L) hi0
  have hgi := hg.issue (e := a0)
  refine g3 ?_
  refine yR (MEntry_c (entRC a0 v1 v2 v3) a0 _ _ _ S9 ⟨v1, v2, v3, rfl, ad, ad, ad, ⟨o1, (H1.up (lT (lT (lT le0 le1) le2) le3))⟩, ⟨o2, (H2.up (lT (lT (lT le0 le1) le2) le3))⟩, ad, ad, ad, ⟨o3, (H3.up (lT (lT (lT le0 le1) le2) le3))⟩⟩ (Nat.le_trans hso.2.2 (by decide))) ?_
  rintro _ w8 ⟨cs1, I4, le4, rfl, h5, S10⟩
  obtain ⟨v4, v5, v6, rfl, r6, r7, r8, ⟨o4, H4⟩, ⟨o5, H5⟩, r9, r10, r11, ⟨o6, H6⟩⟩ := h5
  refine yR (Apply11_c _ _ (entRC a0 v4 v5 v6) a0 _ _ _ S10 (H0.up (lT le3 le4)) ⟨v4, v5, v6, rfl, ad, ad, ad, ⟨o4, H4⟩, ⟨o5, H5⟩, ad, ad, ad, ⟨o6, H6⟩⟩ hri hg.ok.view_small.1 hso.2.1) ?_
  rintro _ w9 ⟨v7, x0, I5, le5, rfl, h6, H7, S11⟩
  refine g9 ?_
  refine yR (LSee_c _ _ _ _ _ _ S11) ?_
  rintro _ w10 ⟨cs2, q2, I6, le6, rfl, h7, S12⟩
  obtain ⟨v8, rfl, r12, r13, ⟨o7, H8⟩⟩ := h7
  have hr0 := DocsP.rising S12
  have hvs := hgi.ok.view_small
  refine g3 ?_
  refine yN polR0 S12 ?_
  intro b2 w11 S13
  refine yW0 S13 ?_ (h1 := ones_cons rfl (ones_cons rfl (ones_cons o7 ones_nil)))
  intro w12 S14
  refine g6 ?_
  refine yR (DAll_c _ _ _ _ _ S14.fr1 hvs.1 hvs.2) ?_
  rintro _ w13 ⟨v9, I7, le7, rfl, S15⟩
  have oH150 := (OwnX.one S15 0 rfl (by decide))
  obtain ⟨I8, le8, S16, H9⟩ := S15.fx0 (by decide)
  refine yR (MDocs_c _ _ _ _ _ S16 H9 hvs.1) ?_
  rintro _ w14 ⟨v10, I9, le9, rfl, S17⟩
  refine g1 ?_
  have oH159 := (OwnX.one S17 0 rfl (by decide))
  obtain ⟨I10, le10, S18, H10⟩ := S17.fx0 (by decide)
  refine yR (Same11_c _ _ _ _ _ _ _ S18 H10 (H7.up (lT (lT (lT (lT le6 le7) le8) le9) le10))) ?_
  rintro _ w15 ⟨rfl, S19⟩
  refine vl _ rfl (nF rfl (decide_eq_true hso.1)) ?_
  refine g2 ?_
  have S20 := S19.fr2
  obtain ⟨bb163, wv163, rv163, pv163, hq163, cok163, hrv163, Hw163, So163⟩ := CliP.opn S20
  obtain rfl : b0 = bb163 := by injection hq163 with hq; injection hq with hq; injection hq
  have lwv163 := RoB.le Hw163 So163.le
  refine yG (LRep_c _ _ _ _ _ (c.issueS L a0) _ _ _ So163) ?_
  rintro _ w16 ⟨rfl, S21⟩
  refine yG (RpDocs_c _ _ _ _ _ _ S21.fr1) ?_
  rintro _ w17 ⟨q3, rfl, S22⟩
  refine yG (DLen_c _ _ _ _ _ S22) ?_
  rintro _ w18 ⟨rfl, S23⟩
  refine gl 54 rfl rfl rfl rfl _ rfl (dcF (r_neq rfl rfl) (decide_eq_false (fun q => q (by rw [hgi.r]; rfl)))) ?_
  refine g3 ?_
  have S24 : Sat _ _ (CliP (ptr b0) p0 (c.issueS L a0) :: _) := CliP.cls (c := (c.issueS L a0)) (wv := wv163) (rv := rv163) (pv := pv163) cok163 hrv163 Hw163 S23.fr3.fr2.fr3
  refine yG (LHead_c _ _ _ _ _ _ S24) ?_
  rintro _ w19 ⟨cs3, I11, le11, rfl, h8, S25⟩
  obtain ⟨v11, rfl, r14, ⟨o8, H11⟩⟩ := h8
  refine gl  61 rfl rfl rfl rfl (.int .i64 ((atV (c.issueS L a0).r.ch ((c.issueS L a0).r.ch.links.length : Int)).index)) rfl (r_field rfl U46 rfl U3 rfl rfl) (gl 61 rfl rfl rfl rfl _ rfl (dcF (r_neq rfl rfl) (decide_eq_false (fun q => q hgi.headI))) ?_)
  refine g8 ?_
  refine EL_int ((i : Int) + 1) rfl (r_addi (by exact e0) rfl (by omega)) ?_
  intro x1 hx186
  refine g3 ?_
  refine ⟨_, ?_, i + 1, c.issueL L a0, (c.issueS L a0), v7, I11, rfl, (Eq.trans (show _ = Value.int .i64 x1 from rfl) (congrArg _ (by omega))), rfl, (by exact e2), (by exact e3), (by exact e4), by omega, hgi, hr0, h6, (lT (lT (lT (lT (lT (lT (lT (lT (lT le2 le3) le4) le5) le6) le7) le8) le9) le10) le11), (by rw [hso.1]; exact (H7.up (lT (lT (lT (lT (lT le6 le7) le8) le9) le10) le11))), S25.dr1.dr1.dr1.dr2.fr1⟩
  first | omega | (simp; omega)
  have hi0 : ¬ c.issueE a0 = 0 := h4
  have hno := issue_no (L := L) hi0
  have hgi := hg.issue (e := a0)
  refine g5 ?_
  refine yR (LSee_c _ _ _ _ _ _ S9) ?_
  rintro _ w20 ⟨cs4, q4, I12, le12, rfl, h9, S26⟩
  obtain ⟨v12, rfl, r15, r16, ⟨o9, H12⟩⟩ := h9
  have hr1 := DocsP.rising S26
  have hvs := hgi.ok.view_small
  refine g3 ?_
  refine yN polR0 S26 ?_
  intro b3 w21 S27
  refine yW0 S27 ?_ (h1 := ones_cons rfl (ones_cons rfl (ones_cons o9 ones_nil)))
  intro w22 S28
  refine g6 ?_
  refine yR (DAll_c _ _ _ _ _ S28.fr1 hvs.1 hvs.2) ?_
  rintro _ w23 ⟨v13, I13, le13, rfl, S29⟩
  have oH226 := (OwnX.one S29 0 rfl (by decide))
  obtain ⟨I14, le14, S30, H13⟩ := S29.fx0 (by decide)
  refine yR (MDocs_c _ _ _ _ _ S30 H13 hvs.1) ?_
  rintro _ w24 ⟨v14, I15, le15, rfl, S31⟩
  refine g1 ?_
  have oH235 := (OwnX.one S31 0 rfl (by decide))
  obtain ⟨I16, le16, S32, H14⟩ := S31.fx0 (by decide)
  refine yR (Same11_c _ _ _ _ _ _ _ S32 H14 (H0.up (lT (lT (lT (lT (lT le3 le12) le13) le14) le15) le16))) ?_
  rintro _ w25 ⟨rfl, S33⟩
  refine vl _ rfl (nF rfl (decide_eq_true (congrArg (fun z => z.view.2) hno))) ?_
  refine g2 ?_
  have S34 := S33.fr2
  obtain ⟨bb239, wv239, rv239, pv239, hq239, cok239, hrv239, Hw239, So239⟩ := CliP.opn S34
  obtain rfl : b0 = bb239 := by injection hq239 with hq; injection hq with hq; injection hq
  have lwv239 := RoB.le Hw239 So239.le
  refine yG (LRep_c _ _ _ _ _ (c.issueS L a0) _ _ _ So239) ?_
  rintro _ w26 ⟨rfl, S35⟩
  refine yG (RpDocs_c _ _ _ _ _ _ S35.fr1) ?_
  rintro _ w27 ⟨q5, rfl, S36⟩
  refine yG (DLen_c _ _ _ _ _ S36) ?_
  rintro _ w28 ⟨rfl, S37⟩
  refine gl 54 rfl rfl rfl rfl _ rfl (dcF (r_neq rfl rfl) (decide_eq_false (fun q => q (by rw [hgi.r]; rfl)))) ?_
  refine g3 ?_
  have S38 : Sat _ _ (CliP (ptr b0) p0 (c.issueS L a0) :: _) := CliP.cls (c := (c.issueS L a0)) (wv := wv239) (rv := rv239) (pv := pv239) cok239 hrv239 Hw239 S37.fr3.fr2.fr3
  refine yG (LHead_c _ _ _ _ _ _ S38) ?_
  rintro _ w29 ⟨cs5, I17, le17, rfl, h10, S39⟩
  obtain ⟨v15, rfl, r17, ⟨o10, H15⟩⟩ := h10
  refine gl  61 rfl rfl rfl rfl (.int .i64 ((atV (c.issueS L a0).r.ch ((c.issueS L a0).r.ch.links.length : Int)).index)) rfl (r_field rfl U46 rfl U3 rfl rfl) (gl 61 rfl rfl rfl rfl _ rfl (dcF (r_neq rfl rfl) (decide_eq_false (fun q => q hgi.headI))) ?_)
  refine g8 ?_
  refine EL_int ((i : Int) + 1) rfl (r_addi (by exact e0) rfl (by omega)) ?_
  intro x2 hx262
  refine g3 ?_
  refine ⟨_, ?_, i + 1, c.issueL L a0, (c.issueS L a0), wv, I17, rfl, (Eq.trans (show _ = Value.int .i64 x2 from rfl) (congrArg _ (by omega))), (by exact e1), (by exact e2), (by exact e3), (by exact e4), by omega, hgi, hr1, (XRow.one (H0.row (lT (lT (lT (lT (lT (lT (lT le3 le12) le13) le14) le15) le16) le17) S39.le))), (lT (lT (lT (lT (lT (lT (lT le2 le3) le12) le13) le14) le15) le16) le17), (by rw [(congrArg (fun z => z.view.2) hno)]; exact (H0.up (lT (lT (lT (lT (lT (lT le3 le12) le13) le14) le15) le16) le17))), S39.dr1.dr1.dr1.dr2.fr1⟩
  first | omega | (simp; omega)
  refine g8 ?_
  have S40 := S5.fr1
  obtain ⟨bb269, wv269, rv269, pv269, hq269, cok269, hrv269, Hw269, So269⟩ := CliP.opn S40
  obtain rfl : b0 = bb269 := by injection hq269 with hq; injection hq with hq; injection hq
  have lwv269 := RoB.le Hw269 So269.le
  have S41 := So269.fr2
  refine yR (LPend_c _ _ _ _ _ c _ _ _ S41.fr1 cok269.pend8 (fun w hw => (cok269.pendR w hw).1)) ?_
  rintro _ w30 ⟨v16, I18, le18, rfl, S42⟩
  have hpe : c.pendE.length ≤ 8 := by rw [Cli.pendE, List.length_map]; exact hg.ok.pend8
  refine vl _ rfl (r_lenX rfl (OwnX.row S42 0 rfl (by decide)).1 U22) (vl _ rfl (dcT (r_leq rfl rfl) (by simp; omega)) ?_)
  refine g4 ?_
  refine f1 Tryz.results7 ?_
  exact ⟨I18, (lT (lT (lT le0 le1) le2) le18), rfl, S42.dr0.dr0.dr0.dr0.dr0⟩
theorem ClientSees_c (v0 : Value) (l : (List Entry)) (w : World) (H0 : RoX (gh w) v0 entR l) : Ret Tryz.prog 7 [v0] w fun v w' => v = .bool true ∧ Below w.heap.size w w' :=
  (ClientSees_w v0 l (gh w) [] w (Sat.start w) H0).mono fun v w' h => by obtain ⟨J, le, e, S⟩ := h; exact ⟨e.symm, S.fin le⟩
theorem own : ownKnob Tryz.prog.godebug = none := by kernel_rfl
theorem laidOut : laidOutB Tryz.prog = true := by kernel_rfl
set_option maxRecDepth 100000 in
theorem lifted (os : Os) (started : os.Started) (H : Type) (enc : TypeId × Value → H) :
    ReturnsInHanded {} Tryz.checked os 7 .any (Rows.clientSeesSpec.pre6 enc Tryz.prog Tryz.f7 Rows.clientSeesRow.domain false) (Rows.clientSeesSpec.post enc Tryz.prog Tryz.f7 false true false false) := by
  refine returnsInHanded_of_change (C := Tryz.checked) own started (by kernel_rfl) Tryz.func7
    (ChangeSpec.witness6 (enc := enc) (C := Tryz.checked) false ⟨#[], #[.slice none 0 0], []⟩ 8 (by kernel_rfl) (by kernel_rfl) (by kernel_rfl) (by kernel_rfl)) ?_
  intro W base args ds gs before hval0 hW hcnd _
  have hval : ∀ (j : Nat) t v, Tryz.f7.params[j]? = some t → args[j]? = some v → Value.okWide Tryz.prog W .any base t v := hval0
  have hW' := hW
  obtain ⟨p, q, hA0, hV, rfl, hfz, hnd⟩ := hW
  have hA : DataW.TrodAll enc Tryz.prog W 0 (fun _ => true) true Tryz.f7.params.toList args.toList ds p := hA0
  rw [Tryz.params7] at hA hval
  obtain ⟨v0, vs0, d0, ds0, p0, q0, hargs, rfl, rfl, h0, r0⟩ := trodAll_cons hA
  obtain ⟨rfl, rfl, rfl⟩ := trodAll_nil r0
  obtain rfl : args = #[v0] := by cases args; simp_all
  obtain ⟨rfl, rfl⟩ := trodVars_none hV
  have k0 := h0
  have lt0 : ∀ x ∈ p0, x.block < W.heap.size := by obtain ⟨m, hm⟩ := k0; exact DataW.trod_lt m _ _ _ hm
  obtain ⟨a0, len0, cap0, rfl⟩ := okWide_slice Tryz.underlying22 (hval 0 22 v0 rfl rfl)
  obtain ⟨b0, H0⟩ : ∃ l, RoX (gh W) (.slice a0 len0 cap0) entR l := by
    obtain ⟨fuel, hf⟩ := h0
    obtain ⟨l, v, hv, _, H⟩ := (Opn.list (τ := entR) Tryz.underlying22 (by kernel_rfl) (by decide) opn_29) _ W _ _ _ _ _ hf
    simp [Value.cells] at hv
    subst hv
    exact ⟨l, H⟩
  clear hA0 hval0
  refine Calls.mono (ClientSees_c (.slice a0 len0 cap0) b0 W H0) fun e W' ⟨v', he, hv, bel⟩ => ?_
  subst he
  subst hv
  exact ⟨_, rfl, _, _, _, [], _, [], hW', trodAll_mk1 (shut_bool Tryz.underlying4 _), (trodAll_cons_mk (Below.trod laidOut (by kernel_rfl) (of_decide_eq_true (by kernel_rfl)) k0 bel lt0) trodAll_mk0), rfl, bel.frame _, fun h => by cases h⟩
theorem over : Rows.clientSeesRow.holds Tryz.pinned (OpenSpec.ofChange Rows.clientSeesSpec) :=
  OpenClaim.holds_of_wide 7 Tryz.f7 rfl rfl rfl rfl rfl rfl rfl ⟨rfl, rfl, rfl, rfl, rfl⟩ rfl rfl rfl rfl rfl (by kernel_rfl) Tryz.func7 (by kernel_rfl)
    (of_decide_eq_true (by kernel_rfl)) (by unfold Func.isWrapper; first | (rw [if_pos (by decide +kernel)]; kernel_rfl) | (rw [if_neg (by decide +kernel)]; exact ⟨rfl, rfl⟩))
    (fun os started H enc _ => lifted os started H enc)
end Go.Proofs.YtanpinfhlbbjkaaGreat.clientSees
namespace Go.Proofs.YtanpinfhlbbjkaaGreat
theorem ClientSees_holds : Rows.ClientSeesSaid := clientSees.over
end Go.Proofs.YtanpinfhlbbjkaaGreat
