/-
  An alarm is for ever: nothing is issued, pushed, pulled or committed from then on, whatever comes.
  Its conditions: none: whatever the input, in whatever memory.
-/
import Derived.Test.YtanpinfhlbbjkaaGreatRows
import Derived.ProofKit
import Derived.OpenShut
import Derived.ShutString
import Derived.ChangeOld
import Derived.Test.YtanpinfhlbbjkaaGreatQClientAlarmsAnc
import Derived.Test.YtanpinfhlbbjkaaGreatQClientAlarmsCliG
set_option linter.unusedVariables false
set_option linter.unusedSimpArgs false
namespace Go.Proofs.YtanpinfhlbbjkaaGreat.clientAlarms
open Go.ChangeShapes Go.WideShapes Go.ChangeAt Go.RowKit Go.Ecal
open Go.ChangeMaps (open_string shut_string)
set_option maxRecDepth 100000 in
theorem opn_113 : Opn Tryz.prog 113 wrapR := fun enc w sp hd fuel cs x h => by
  obtain ⟨xs, n, _, _, hl, hxl, hf⟩ := DataW.trod_struct Tryz.underlying113 h
  have hlen : cs.length = 2 := hl.trans (by kernel_rfl)
  obtain ⟨c0, t0, rfl, l0⟩ := cons_of_len hlen
  obtain ⟨c1, t1, rfl, l1⟩ := cons_of_len l0
  obtain rfl := List.eq_nil_of_length_eq_zero l1
  have e0 : DataW.trod enc Tryz.prog w 0 sp hd n 3 [c0] = xs[0]? := Opn.part hf rfl rfl rfl (k := 1) (by kernel_rfl) rfl
  obtain ⟨a0, h0⟩ := Opn.field (Opn.int Tryz.underlying3) (by rw [hxl]; decide) e0
  have e1 : DataW.trod enc Tryz.prog w 0 sp hd n 26 [c1] = xs[1]? := Opn.part hf rfl rfl rfl (k := 1) (by kernel_rfl) rfl
  obtain ⟨a1, h1⟩ := Opn.field (Opn.bytes Tryz.underlying26 Tryz.underlying5 (by kernel_rfl)) (by rw [hxl]; decide) e1
  obtain ⟨q, rh0⟩ := h0; simp only [List.cons.injEq, and_true] at q; subst q
  obtain ⟨vh1, q, oh1, rh1⟩ := h1; simp only [List.cons.injEq, and_true] at q; subst q
  exact ⟨⟨a0, a1⟩, ⟨_, rfl, rh0, ⟨oh1, rh1⟩⟩⟩
set_option maxRecDepth 100000 in
theorem opn_29 : Opn Tryz.prog 29 entR := fun enc w sp hd fuel cs x h => by
  obtain ⟨xs, n, _, _, hl, hxl, hf⟩ := DataW.trod_struct Tryz.underlying29 h
  have hlen : cs.length = 9 := hl.trans (by kernel_rfl)
  obtain ⟨c0, t0, rfl, l0⟩ := cons_of_len hlen
  obtain ⟨c1, t1, rfl, l1⟩ := cons_of_len l0
  obtain ⟨c2, t2, rfl, l2⟩ := cons_of_len l1
  obtain ⟨c3, t3, rfl, l3⟩ := cons_of_len l2
  obtain ⟨c4, t4, rfl, l4⟩ := cons_of_len l3
  obtain ⟨c5, t5, rfl, l5⟩ := cons_of_len l4
  obtain ⟨c6, t6, rfl, l6⟩ := cons_of_len l5
  obtain ⟨c7, t7, rfl, l7⟩ := cons_of_len l6
  obtain ⟨c8, t8, rfl, l8⟩ := cons_of_len l7
  obtain rfl := List.eq_nil_of_length_eq_zero l8
  have e0 : DataW.trod enc Tryz.prog w 0 sp hd n 3 [c0] = xs[0]? := Opn.part hf rfl rfl rfl (k := 1) (by kernel_rfl) rfl
  obtain ⟨a0, h0⟩ := Opn.field (Opn.int Tryz.underlying3) (by rw [hxl]; decide) e0
  have e1 : DataW.trod enc Tryz.prog w 0 sp hd n 3 [c1] = xs[1]? := Opn.part hf rfl rfl rfl (k := 1) (by kernel_rfl) rfl
  obtain ⟨a1, h1⟩ := Opn.field (Opn.int Tryz.underlying3) (by rw [hxl]; decide) e1
  have e2 : DataW.trod enc Tryz.prog w 0 sp hd n 3 [c2] = xs[2]? := Opn.part hf rfl rfl rfl (k := 1) (by kernel_rfl) rfl
  obtain ⟨a2, h2⟩ := Opn.field (Opn.int Tryz.underlying3) (by rw [hxl]; decide) e2
  have e3 : DataW.trod enc Tryz.prog w 0 sp hd n 26 [c3] = xs[3]? := Opn.part hf rfl rfl rfl (k := 1) (by kernel_rfl) rfl
  obtain ⟨a3, h3⟩ := Opn.field (Opn.bytes Tryz.underlying26 Tryz.underlying5 (by kernel_rfl)) (by rw [hxl]; decide) e3
  have e4 : DataW.trod enc Tryz.prog w 0 sp hd n 26 [c4] = xs[4]? := Opn.part hf rfl rfl rfl (k := 1) (by kernel_rfl) rfl
  obtain ⟨a4, h4⟩ := Opn.field (Opn.bytes Tryz.underlying26 Tryz.underlying5 (by kernel_rfl)) (by rw [hxl]; decide) e4
  have e5 : DataW.trod enc Tryz.prog w 0 sp hd n 3 [c5] = xs[5]? := Opn.part hf rfl rfl rfl (k := 1) (by kernel_rfl) rfl
  obtain ⟨a5, h5⟩ := Opn.field (Opn.int Tryz.underlying3) (by rw [hxl]; decide) e5
  have e6 : DataW.trod enc Tryz.prog w 0 sp hd n 3 [c6] = xs[6]? := Opn.part hf rfl rfl rfl (k := 1) (by kernel_rfl) rfl
  obtain ⟨a6, h6⟩ := Opn.field (Opn.int Tryz.underlying3) (by rw [hxl]; decide) e6
  have e7 : DataW.trod enc Tryz.prog w 0 sp hd n 3 [c7] = xs[7]? := Opn.part hf rfl rfl rfl (k := 1) (by kernel_rfl) rfl
  obtain ⟨a7, h7⟩ := Opn.field (Opn.int Tryz.underlying3) (by rw [hxl]; decide) e7
  have e8 : DataW.trod enc Tryz.prog w 0 sp hd n 27 [c8] = xs[8]? := Opn.part hf rfl rfl rfl (k := 1) (by kernel_rfl) rfl
  obtain ⟨a8, h8⟩ := Opn.field (Opn.list (τ := wrapR) Tryz.underlying27 (by kernel_rfl) (by decide) opn_113) (by rw [hxl]; decide) e8
  obtain ⟨q, rh0⟩ := h0; simp only [List.cons.injEq, and_true] at q; subst q
  obtain ⟨q, rh1⟩ := h1; simp only [List.cons.injEq, and_true] at q; subst q
  obtain ⟨q, rh2⟩ := h2; simp only [List.cons.injEq, and_true] at q; subst q
  obtain ⟨vh3, q, oh3, rh3⟩ := h3; simp only [List.cons.injEq, and_true] at q; subst q
  obtain ⟨vh4, q, oh4, rh4⟩ := h4; simp only [List.cons.injEq, and_true] at q; subst q
  obtain ⟨q, rh5⟩ := h5; simp only [List.cons.injEq, and_true] at q; subst q
  obtain ⟨q, rh6⟩ := h6; simp only [List.cons.injEq, and_true] at q; subst q
  obtain ⟨q, rh7⟩ := h7; simp only [List.cons.injEq, and_true] at q; subst q
  obtain ⟨vh8, q, oh8, rh8⟩ := h8; simp only [List.cons.injEq, and_true] at q; subst q
  exact ⟨⟨a0, a1, a2, a3, a4, a5, a6, a7, a8⟩, ⟨_, _, _, rfl, rh0, rh1, rh2, ⟨oh3, rh3⟩, ⟨oh4, rh4⟩, rh5, rh6, rh7, ⟨oh8, rh8⟩⟩⟩
theorem ClientAlarms_w (v0 : Value) (l : (List Entry)) (sum : List UInt8) (I : Gh) (R : List HP) (w : World) (S : Sat w I (R)) (Q0 : RoX I v0 entR l) (lsum : sum.length = 32) : Ret Tryz.prog 5 [v0, .agg (sum.map byt).toArray] w fun v w' => ∃ J : Gh, Gh.le I J ∧ .bool true = v ∧ Sat w' J (R) := by
  have lq0 := XRow.le (Q0.row S.le)
  refine ret_E Tryz.func5 rfl Tryz.ntmps5 (by simp) ?_
  refine g2 ?_
  refine EL_box (sum.map byt) rfl rfl rfl ?_
  intro b0 w0 k0 A0 B0 z0
  have S0 := S.newB B0 A0 k0
  refine g6 ?_
  refine yR (anchor_c _ _ _ S0) ?_
  rintro _ w1 ⟨I0, le0, rfl, S1⟩
  refine vl _ rfl (dcF (r_not rfl) rfl) ?_
  refine g9 ?_
  refine vl _ rfl (r_lenX rfl (Q0.row (lT le0 S1.le)) U22) ?_
  refine g3 ?_
  refine EC_if rfl (fun h0 => ?_) (fun h0 => ?_)
  refine g7 ?_
  refine f1 Tryz.results5 ?_
  exact ⟨I0, le0, rfl, S1.dr0⟩
  have hg266 : l.length ≤ 6 := by simp at h0; omega
  refine g4 ?_
  refine yR (Signs_c _ _ _ S1) ?_
  rintro _ w2 ⟨p0, rfl, S2⟩
  have o0 := Suite.one S2
  refine vl _ rfl (gB [.int .i64 1, .int .i64 1, .int .i64 1, .slice none 0 0] st_42 (parts3 rfl rfl rfl) (fill_one rfl rfl rfl (fill_one rfl rfl rfl (fill_one rfl rfl rfl fill_end)))) ?_
  refine yR (LNew_c _ _ [.int .i64 1, .int .i64 1, .int .i64 1, .slice none 0 0] (⟨1, 1, 1, []⟩ : WhoT) _ _ _ S2 ⟨(.slice none 0 0), rfl, (by dsimp only; omega), (by dsimp only; omega), (by dsimp only; omega), ⟨rfl, Ro.nil⟩⟩ (by decide) (by decide) (by decide)) ?_
  rintro _ w3 ⟨b1, I1, le1, rfl, S3⟩
  have q0 : newC ([] : List Thing) (⟨1, 1, 1, []⟩ : WhoT).coll (⟨1, 1, 1, []⟩ : WhoT).founder (⟨1, 1, 1, []⟩ : WhoT).who (⟨1, 1, 1, []⟩ : WhoT).sec = newC [] 1 1 1 [] := rfl
  have S4 := Sat.ah0 (CliP (ptr b1) p0) S3 q0
  have q1 : (newR ([] : List Thing) (⟨1, 1, 1, []⟩ : WhoT).coll (⟨1, 1, 1, []⟩ : WhoT).founder (⟨1, 1, 1, []⟩ : WhoT).who (⟨1, 1, 1, []⟩ : WhoT).sec).1 = (newR [] 1 1 1 []).1 := rfl
  have S5 := Sat.ah1 (Suite p0) S4 q1
  refine g11 ?_
  refine vl (.bool false) rfl (r_dec (by decide) (r_neq rfl rfl)) ?_
  refine g9 ?_
  refine vl _ rfl (r_lenX rfl (Q0.row (lT (lT le0 le1) S5.le)) U22) ?_
  refine g4 ?_
  refine EC_loop (fun m' E' w' => ∃ i : Nat, ∃ L : List Thing, ∃ c : Cli, ∃ J : Gh, m' = l.length - i ∧ E' 36 = .int .i64 (i : Int) ∧ E' 3 = ptr b0 ∧ E' 5 = ptr b1 ∧ E' 34 = v0 ∧ E' 35 = .int .i64 (l.length : Int) ∧ (i ≤ l.length) ∧ (CGood L c i) ∧ Gh.le I1 J ∧ Sat w' J (Suite p0 L :: CliP (ptr b1) p0 c :: Blk b0 53 (sum.map byt) :: R)) _ ⟨0, (newR [] 1 1 1 []).1, newC [] 1 1 1 [], I1, rfl, rfl, rfl, rfl, rfl, rfl, Nat.zero_le _, CGood.begin, (Gh.le_refl _), S5.fr2.fr1.fr2⟩ ?_
  rintro _ E0 w4 ⟨i, L, c, I2, rfl, e0, e1, e2, e3, e4, hi, hg, le2, S6⟩
  refine g6 ?_
  refine EC_if rfl (fun h2 => ?_) (fun h2 => ?_)
  refine g6 ?_
  refine vl (ptr (blkOf v0) (offOf v0 + ((i : Int) : Int).toNat * 9)) rfl (r_indexX (by exact e3) (Q0.row (lT (lT (lT le0 le1) le2) S6.le)) (by exact e0) (by omega) as' U22 (by kernel_rfl)) ?_
  obtain ⟨a0, ha0⟩ := get_some (l := l) (j := ((i : Int) : Int).toNat) as'
  obtain ⟨cs0, hc0, he0⟩ := Q0.el ha0
  obtain ⟨v1, v2, v3, rfl, r0, r1, r2, ⟨o1, H0⟩, ⟨o2, H1⟩, r3, r4, r5, ⟨o3, H2⟩⟩ := hc0
  refine vl (.agg ((entRC a0 v1 v2 v3)).toArray) rfl (r_loadR (cs := (entRC a0 v1 v2 v3)) rfl (he0 _ (lT (lT (lT le0 le1) le2) S6.le)) U29 rfl (by kernel_rfl)) ?_
  refine yN entR0 S6 ?_
  intro b2 w5 S7
  refine yW0 S7 ?_ (h1 := ones_cons rfl (ones_cons rfl (ones_cons rfl (ones_cons o1 (ones_cons o2 (ones_cons rfl (ones_cons rfl (ones_cons rfl (ones_cons o3 ones_nil)))))))))
  intro w6 S8
  refine g6 ?_
  refine yR (Small_c (entRC a0 v1 v2 v3) a0 _ _ _ S8 ⟨v1, v2, v3, rfl, ad, ad, ad, ⟨o1, (H0.up (lT (lT le0 le1) le2))⟩, ⟨o2, (H1.up (lT (lT le0 le1) le2))⟩, ad, ad, ad, ⟨o3, (H2.up (lT (lT le0 le1) le2))⟩⟩) ?_
  rintro _ w7 ⟨rfl, S9⟩
  refine g3 ?_
  refine EC_cond (t := !(smallE a0)) rfl (fun h3 => ?_) (fun h3 => ?_)
  simp only [Bool.and_eq_true, Bool.or_eq_true, Bool.not_eq_true', Bool.not_eq_false', decide_eq_true_eq, decide_eq_false_iff_not, Bool.and_eq_false_iff, Bool.or_eq_false_iff, Bool.not_eq_true, Bool.not_eq_false, bne_iff_ne, beq_iff_eq, beq_eq_false_iff_ne] at h3
  refine g12 ?_
  refine f1 Tryz.results5 ?_
  exact ⟨I2, (lT (lT le0 le1) le2), rfl, S9.dr0.dr0.dr0.dr0⟩
  simp only [Bool.and_eq_true, Bool.or_eq_true, Bool.not_eq_true', Bool.not_eq_false', decide_eq_true_eq, decide_eq_false_iff_not, Bool.and_eq_false_iff, Bool.or_eq_false_iff, Bool.not_eq_true, Bool.not_eq_false, bne_iff_ne, beq_iff_eq, beq_eq_false_iff_ne] at h3
  refine g5 ?_
  refine yR (LIssue_c _ _ _ (entRC a0 v1 v2 v3) a0 _ _ _ _ S9.fr1.fr2 ⟨v1, v2, v3, rfl, ad, ad, ad, ⟨o1, (H0.up (lT (lT le0 le1) le2))⟩, ⟨o2, (H1.up (lT (lT le0 le1) le2))⟩, ad, ad, ad, ⟨o3, (H2.up (lT (lT le0 le1) le2))⟩⟩ (by have := hg.len; omega)) ?_
  rintro _ w8 ⟨I3, le3, rfl, S10⟩
  refine g4 ?_
  refine EL_int ((i : Int) + 1) rfl (r_addi (by exact e0) rfl (by omega)) ?_
  intro x0 hx96
  refine g3 ?_
  refine ⟨_, ?_, i + 1, c.issueL L a0, c.issueS L a0, I3, rfl, (Eq.trans (show _ = Value.int .i64 x0 from rfl) (congrArg _ (by omega))), (by exact e1), (by exact e2), (by exact e3), (by exact e4), by omega, hg.issue, (lT le2 le3), S10.dr2.fr2.fr1.fr2⟩
  first | omega | (simp; omega)
  refine g8 ?_
  refine yR (LPush_c _ _ _ _ _ _ S6.fr1) ?_
  rintro _ w9 ⟨v4, I4, le4, rfl, S11⟩
  have oH110 := (OwnX.one S11 0 rfl (by decide))
  obtain ⟨I5, le5, S12, H3⟩ := S11.fx0 (by decide)
  refine g10 ?_
  refine yR (LHead_c _ _ _ _ _ _ S12) ?_
  rintro _ w10 ⟨cs1, I6, le6, rfl, h4, S13⟩
  obtain ⟨v5, rfl, r6, ⟨o4, H4⟩⟩ := h4
  refine yN [.int .i64 0, .slice none 0 0] S13 ?_
  intro b3 w11 S14
  refine yW0 S14 ?_ (h1 := ones_cons rfl (ones_cons o4 ones_nil))
  intro w12 S15
  refine g5 ?_
  obtain ⟨I7, le7, S16, H5⟩ := S15.fk3
  have H6 : RoB I7 (.slice (some ⟨b0, 0, none⟩) 32 32) sum := frzB_row H5 (by first | assumption | (simp; omega) | simp) (by decide)
  refine vl (.slice (some ⟨b0, 0, none⟩) 32 32) rfl (r_sliceA (by exact e1) U53 (by kernel_rfl)) (vl _ rfl (gB [.int .i64 0, (.slice (some ⟨b0, 0, none⟩) 32 32)] st_46 (parts1 rfl) (fill_one rfl (row_cells (H6 _ S16.le)) rfl fill_end)) ?_)
  have S17 := S16.fr1
  refine yR (LCmp_c _ _ _ [.int .i64 0, (.slice (some ⟨b0, 0, none⟩) 32 32)] (⟨0, sum⟩ : HeadT) _ _ _ S17 ⟨(.slice (some ⟨b0, 0, none⟩) 32 32), rfl, (by dsimp only; omega), ⟨(row_one (H6 _ S17.le)), H6⟩⟩) ?_
  rintro _ w13 ⟨I8, le8, rfl, S18⟩
  refine g5 ?_
  refine EC_quietB (by kernel_rfl) (by kernel_rfl) ?_
  refine g2 ?_
  refine EQ_val (.string (str ((atV c.r.ch (c.r.ch.links.length : Int)).sum))) rfl (fun _ hw => r_str rfl ((H4 _ (lT (lT le7 le8) S18.le)).below hw) U26 U5 U9) (EQ_val (.slice (some ⟨b0, 0, none⟩) 32 32) rfl (fun _ hw => r_sliceA (by exact e1) U53 (by kernel_rfl)) (EQ_val (.string (str sum)) rfl (fun _ hw => r_str rfl ((H6 _ (lT le8 S18.le)).below hw) U26 U5 U9) (EQ_val (.bool (decide (((atV c.r.ch (c.r.ch.links.length : Int)).sum) = sum))) rfl (fun _ hw => r_eqls rfl rfl) ?_)))
  refine yE S18 ?_
  intro w14 S19
  refine g1 ?_
  refine EC_if rfl (fun h5 => ?_) (fun h5 => ?_)
  have hsm : (atV c.r.ch (c.r.ch.links.length : Int)).sum = sum := by simpa using h5
  have hcE : c.cmpE 0 sum = 0 := (hg.cmpI (s := sum)).trans (if_pos hsm)
  refine g3 ?_
  refine vl _ rfl (dcT (r_eql rfl rfl) (by simp [hcE])) ?_
  refine g2 ?_
  refine yG (LAlarm_c _ _ _ _ _ _ S19) ?_
  rintro _ w15 ⟨rfl, S20⟩
  refine gl 66 rfl rfl rfl rfl _ rfl (nT rfl (by rw [cmpS_0 hcE]; exact hg.al)) ?_
  refine g6 ?_
  refine f1 Tryz.results5 ?_
  exact ⟨I8, (lT (lT (lT (lT (lT (lT (lT le0 le1) le2) le4) le5) le6) le7) le8), rfl, S20.dr0.dr0.dr0⟩
  have hsm : ¬ (atV c.r.ch (c.r.ch.links.length : Int)).sum = sum := by simpa using h5
  have hcE : c.cmpE 0 sum = 24 := (hg.cmpI (s := sum)).trans (if_neg hsm)
  refine g4 ?_
  obtain ⟨c1, hc1⟩ : ∃ z, z = c.cmpS 0 sum := ⟨_, rfl⟩
  have q2 : c.cmpS (⟨0, sum⟩ : HeadT).index (⟨0, sum⟩ : HeadT).sum = c1 := hc1.symm
  have S21 := Sat.ah0 (CliP (ptr b1) p0) S19 q2
  have hpr1 : c.pushR.length ≤ 1 := push_len
  have hal1 : c1.alarm = true := by rw [hc1]; show (c.alarm || decide (c.cmpE 0 sum = 24)) = true; rw [hcE]; simp
  have hr1 : c1.r = c.r := by rw [hc1]; rfl
  have hco1 : c1.coll = c.coll := by rw [hc1]; rfl
  have hcm1 : c1.cmpE (atV c.r.ch (c.r.ch.links.length : Int)).index (atV c.r.ch (c.r.ch.links.length : Int)).sum = 0 := by rw [Cli.cmpE, hr1]; exact hg.cmp0
  skip
  refine g2 ?_
  refine vl _ rfl (dcF (r_neq rfl rfl) (by simp [hcE, hal1, Cli.pushE, Cli.pullE, hcm1])) ?_
  refine g2 ?_
  refine yG (LAlarm_c _ _ _ _ _ _ S21) ?_
  rintro _ w16 ⟨rfl, S22⟩
  refine gl 73 rfl rfl rfl rfl _ rfl (nF rfl hal1) ?_
  refine g3 ?_
  refine yG (PutN_c ([97] : List UInt8) ([98] : List UInt8) _ _ _ S22 (by decide) (by decide)) ?_
  rintro _ w17 ⟨cs2, I9, le9, rfl, h6, S23⟩
  obtain ⟨v6, v7, v8, rfl, r7, r8, r9, ⟨o5, H7⟩, ⟨o6, H8⟩, r10, r11, r12, ⟨o7, H9⟩⟩ := h6
  refine yG (LIssue_c _ _ _ (entRC (putEn 0 0 ([97] : List UInt8) ([98] : List UInt8)) v6 v7 v8) (putEn 0 0 ([97] : List UInt8) ([98] : List UInt8)) _ _ _ _ S23.fr2.fr1 ⟨v6, v7, v8, rfl, ad, ad, ad, ⟨o5, H7⟩, ⟨o6, H8⟩, ad, ad, ad, ⟨o7, H9⟩⟩ (by have := hg.len; omega)) ?_
  rintro _ w18 ⟨I10, le10, rfl, S24⟩
  have q3 : c1.issueS L (putEn 0 0 ([97] : List UInt8) ([98] : List UInt8)) = c1 := (issue_al hal1).2.1
  have S25 := Sat.ah0 (CliP (ptr b1) p0) S24 q3
  have q4 : c1.issueL L (putEn 0 0 ([97] : List UInt8) ([98] : List UInt8)) = L := (issue_al hal1).2.2
  have S26 := Sat.ah1 (Suite p0) S25 q4
  refine gl 78 rfl rfl rfl rfl _ rfl (dcF (r_neq rfl rfl) (decide_eq_false (fun q => q (issue_al (L := L) hal1).1))) ?_
  refine g3 ?_
  refine yG (LRotA_c _ _ _ _ _ _ S26 hal1) ?_
  rintro _ w19 ⟨I11, le11, rfl, S27⟩
  refine gl  84 rfl rfl rfl rfl (.bool false) rfl (r_dec (by decide) (r_neq rfl rfl)) ?_
  refine g9 ?_
  refine yR (LPush_c _ _ _ _ _ _ S27) ?_
  rintro _ w20 ⟨v9, I12, le12, rfl, S28⟩
  have oH199 := (OwnX.one S28 0 rfl (by decide))
  obtain ⟨I13, le13, S29, H10⟩ := S28.fx0 (by decide)
  refine g10 ?_
  refine yR (LPull_c _ _ _ _ _ _ S29) ?_
  rintro _ w21 ⟨v10, I14, le14, rfl, S30⟩
  refine g11 ?_
  refine vl _ rfl (dcF (r_neq rfl rfl) (by simp [hcE, hal1, Cli.pushE, Cli.pullE, hcm1])) ?_
  refine g2 ?_
  refine gl 101 rfl rfl rfl rfl _ rfl (dcF (r_neq rfl rfl) (by simp [hcE, hal1, Cli.pushE, Cli.pullE, hcm1])) ?_
  refine g4 ?_
  refine yG (LCmp_c _ _ _ [.int .i64 ((atV c.r.ch (c.r.ch.links.length : Int)).index), v5] (atV c.r.ch (c.r.ch.links.length : Int)) _ _ _ S30.fr1 ⟨v5, rfl, ad, ⟨o4, (H4.up (lT (lT (lT (lT (lT (lT (lT le7 le8) le9) le10) le11) le12) le13) le14))⟩⟩) ?_
  rintro _ w22 ⟨I15, le15, rfl, S31⟩
  have q5 : c1.cmpS (atV c.r.ch (c.r.ch.links.length : Int)).index (atV c.r.ch (c.r.ch.links.length : Int)).sum = c1 := (cmpS_0 hcm1)
  have S32 := Sat.ah0 (CliP (ptr b1) p0) S31 q5
  refine gl 105 rfl rfl rfl rfl _ rfl (dcF (r_neq rfl rfl) (by simp [hcE, hal1, Cli.pushE, Cli.pullE, hcm1])) ?_
  refine g3 ?_
  refine yG (LAlarm_c _ _ _ _ _ _ S32) ?_
  rintro _ w23 ⟨rfl, S33⟩
  refine gl 111 rfl rfl rfl rfl _ rfl (nF rfl hal1) ?_
  refine g10 ?_
  refine vl _ rfl (r_lenX rfl (H3.row (lT (lT (lT (lT (lT (lT (lT (lT (lT (lT le6 le7) le8) le9) le10) le11) le12) le13) le14) le15) S33.le)) U33) ?_
  refine g4 ?_
  refine EC_loop (fun m' E' w' => ∃ k : Nat, ∃ J : Gh, m' = c.pushR.length - k ∧ E' 118 = .int .i64 (k : Int) ∧ E' 5 = ptr b1 ∧ E' 116 = v4 ∧ E' 117 = .int .i64 (c.pushR.length : Int) ∧ (k ≤ c.pushR.length) ∧ Gh.le I15 J ∧ Sat w' J (CliP (ptr b1) p0 c1 :: OwnB v10 c1.pullB :: Suite p0 L :: Blk b3 46 [.int .i64 ((atV c.r.ch (c.r.ch.links.length : Int)).index), v5] :: R)) _ ⟨0, I15, rfl, rfl, (by exact e2), rfl, rfl, Nat.zero_le _, (Gh.le_refl _), S33⟩ ?_
  rintro _ E1 w24 ⟨k, I16, rfl, e5, e6, e7, e8, hk, le16, S34⟩
  refine g6 ?_
  refine EC_if rfl (fun h7 => ?_) (fun h7 => ?_)
  refine g6 ?_
  refine vl (ptr (blkOf v4) (offOf v4 + ((k : Int) : Int).toNat * 1)) rfl (r_indexX (by exact e7) (H3.row (lT (lT (lT (lT (lT (lT (lT (lT (lT (lT (lT le6 le7) le8) le9) le10) le11) le12) le13) le14) le15) le16) S34.le)) (by exact e5) (by omega) as' U33 (by kernel_rfl)) ?_
  obtain ⟨a1, ha1⟩ := get_some (l := c.pushR) (j := ((k : Int) : Int).toNat) as'
  obtain ⟨cs3, hc2, he1⟩ := H3.el ha1
  obtain ⟨v11, rfl, o8, H11⟩ := hc2
  refine vl _ rfl (r_load0 rfl (he1 _ (lT (lT (lT (lT (lT (lT (lT (lT (lT (lT (lT le6 le7) le8) le9) le10) le11) le12) le13) le14) le15) le16) S34.le)) U26 rfl) ?_
  refine g7 ?_
  refine yR (Batch_c _ _ 0 _ _ _ S34 (H11.up (lT (lT (lT (lT (lT (lT (lT (lT (lT (lT le6 le7) le8) le9) le10) le11) le12) le13) le14) le15) le16)) (by decide)) ?_
  rintro _ w25 ⟨v12, I17, le17, rfl, S35⟩
  obtain ⟨I18, le18, S36, H12⟩ := S35.fb0
  refine yR (LTake_c _ _ _ _ _ _ _ _ _ S36.fr2.fr1 H12 (by have := hg.len; omega) (texts_ok hg.txt)) ?_
  rintro _ w26 ⟨v13, I19, le19, rfl, S37⟩
  have h42 : c1.takeE (⟨3, (frV a1).coll, 0, (frV a1).links, (frV a1).sum⟩ : FrameT).encB = 42 := alarm_take hg.ok hal1 hco1 (List.mem_of_getElem? (show c.pushR[k]? = _ from ha1))
  have q6 : (c1.takeS L (({ frV a1 with kind := 3, index := 0 } : FrameT).encB)).2 = c1 := by rw [Cli.takeS]; rw [if_neg (by intro q; exact absurd (h42.symm.trans q) (by decide))]
  have S38 := Sat.ah1 (CliP (ptr b1) p0) S37 q6
  have q7 : (c1.takeS L (({ frV a1 with kind := 3, index := 0 } : FrameT).encB)).1 = L := by rw [Cli.takeS]; rw [if_neg (by intro q; exact absurd (h42.symm.trans q) (by decide))]
  have S39 := Sat.ah2 (Suite p0) S38 q7
  refine g10 ?_
  refine vl _ rfl (dcF (r_neq rfl rfl) (decide_eq_false (fun q => q h42))) ?_
  refine g2 ?_
  refine gl  131 rfl rfl rfl rfl (.int .i64 ((c1.takeO L (({ frV a1 with kind := 3, index := 0 } : FrameT).encB)).length : Int)) rfl (lenF (r_len rfl (own_row (S39.own 0 rfl)) U48)) (gl 131 rfl rfl rfl rfl _ rfl (dcF (r_neq rfl rfl) (decide_eq_false (fun q => q (by rw [Cli.takeO]; rw [if_neg (by intro q; exact absurd (h42.symm.trans q) (by decide))]; rfl)))) ?_)
  refine g8 ?_
  refine EL_int ((k : Int) + 1) rfl (r_addi (by exact e5) rfl (by omega)) ?_
  intro x1 hx252
  refine g3 ?_
  refine ⟨_, ?_, k + 1, I19, rfl, (Eq.trans (show _ = Value.int .i64 x1 from rfl) (congrArg _ (by omega))), (by exact e6), (by exact e7), (by exact e8), by omega, (lT (lT (lT le16 le17) le18) le19), S39.dr0.fr3.fr2.fr3.fr3⟩
  first | omega | (simp; omega)
  refine g8 ?_
  refine yR (LHead_c _ _ _ _ _ _ S34) ?_
  rintro _ w27 ⟨cs4, I20, le20, rfl, h8, S40⟩
  obtain ⟨v14, rfl, r13, ⟨o9, H13⟩⟩ := h8
  refine vl (.int .i64 ((atV c1.r.ch (c1.r.ch.links.length : Int)).index)) rfl (r_field rfl U46 rfl U3 rfl rfl) (vl _ rfl (dcT (r_eql rfl rfl) (by simp [hr1, hg.headI])) ?_)
  refine g4 ?_
  refine f1 Tryz.results5 ?_
  exact ⟨I20, (lT (lT (lT (lT (lT (lT (lT (lT (lT (lT (lT (lT (lT (lT (lT (lT le0 le1) le2) le4) le5) le6) le7) le8) le9) le10) le11) le12) le13) le14) le15) le16) le20), rfl, S40.dr0.dr0.dr0.dr0⟩
theorem ClientAlarms_c (v0 : Value) (l : (List Entry)) (sum : List UInt8) (w : World) (H0 : RoX (gh w) v0 entR l) (lsum : sum.length = 32) : Ret Tryz.prog 5 [v0, .agg (sum.map byt).toArray] w fun v w' => v = .bool true ∧ Below w.heap.size w w' :=
  (ClientAlarms_w v0 l sum (gh w) [] w (Sat.start w) H0 lsum).mono fun v w' h => by obtain ⟨J, le, e, S⟩ := h; exact ⟨e.symm, S.fin le⟩
theorem own : ownKnob Tryz.prog.godebug = none := by kernel_rfl
theorem laidOut : laidOutB Tryz.prog = true := by kernel_rfl
set_option maxRecDepth 100000 in
theorem lifted (os : Os) (started : os.Started) (H : Type) (enc : TypeId × Value → H) :
    ReturnsInHanded {} Tryz.checked os 5 .any (Rows.clientAlarmsSpec.pre6 enc Tryz.prog Tryz.f5 Rows.clientAlarmsRow.domain false) (Rows.clientAlarmsSpec.post enc Tryz.prog Tryz.f5 false true false false) := by
  refine returnsInHanded_of_change (C := Tryz.checked) own started (by kernel_rfl) Tryz.func5
    (ChangeSpec.witness6 (enc := enc) (C := Tryz.checked) false ⟨#[], #[.slice none 0 0, .agg #[.int .u8 0, .int .u8 0, .int .u8 0, .int .u8 0, .int .u8 0, .int .u8 0, .int .u8 0, .int .u8 0, .int .u8 0, .int .u8 0, .int .u8 0, .int .u8 0, .int .u8 0, .int .u8 0, .int .u8 0, .int .u8 0, .int .u8 0, .int .u8 0, .int .u8 0, .int .u8 0, .int .u8 0, .int .u8 0, .int .u8 0, .int .u8 0, .int .u8 0, .int .u8 0, .int .u8 0, .int .u8 0, .int .u8 0, .int .u8 0, .int .u8 0, .int .u8 0]], []⟩ 8 (by kernel_rfl) (by kernel_rfl) (by kernel_rfl) (by kernel_rfl)) ?_
  intro W base args ds gs before hval0 hW hcnd _
  have hval : ∀ (j : Nat) t v, Tryz.f5.params[j]? = some t → args[j]? = some v → Value.okWide Tryz.prog W .any base t v := hval0
  have hW' := hW
  obtain ⟨p, q, hA0, hV, rfl, hfz, hnd⟩ := hW
  have hA : DataW.TrodAll enc Tryz.prog W 0 (fun _ => true) true Tryz.f5.params.toList args.toList ds p := hA0
  rw [Tryz.params5] at hA hval
  obtain ⟨v0, vs0, d0, ds0, p0, q0, hargs, rfl, rfl, h0, r0⟩ := trodAll_cons hA
  obtain ⟨v1, vs1, d1, ds1, p1, q1, rfl, rfl, rfl, h1, r1⟩ := trodAll_cons r0
  obtain ⟨rfl, rfl, rfl⟩ := trodAll_nil r1
  obtain rfl : args = #[v0, v1] := by cases args; simp_all
  obtain ⟨rfl, rfl⟩ := trodVars_none hV
  have k0 := h0
  have lt0 : ∀ x ∈ p0, x.block < W.heap.size := by obtain ⟨m, hm⟩ := k0; exact DataW.trod_lt m _ _ _ hm
  obtain ⟨a0, len0, cap0, rfl⟩ := okWide_slice Tryz.underlying22 (hval 0 22 v0 rfl rfl)
  obtain ⟨b0, H0⟩ : ∃ l, RoX (gh W) (.slice a0 len0 cap0) entR l := by
    obtain ⟨fuel, hf⟩ := h0
    obtain ⟨l, v, hv, _, H⟩ := (Opn.list (τ := entR) Tryz.underlying22 (by kernel_rfl) (by decide) opn_29) _ W _ _ _ _ _ hf
    simp [Value.cells] at hv
    subst hv
    exact ⟨l, H⟩
  have k1 := h1
  have lt1 : ∀ x ∈ p1, x.block < W.heap.size := by obtain ⟨m, hm⟩ := k1; exact DataW.trod_lt m _ _ _ hm
  obtain ⟨l1, hl1, rfl⟩ := arr_open (n := 32) Tryz.underlying53 Tryz.underlying5 (by kernel_rfl) (by kernel_rfl) (hval 1 53 v1 rfl rfl) h1
  clear hA0 hval0
  refine Calls.mono (ClientAlarms_c (.slice a0 len0 cap0) b0 l1 W H0 hl1) fun e W' ⟨v', he, hv, bel⟩ => ?_
  subst he
  subst hv
  exact ⟨_, rfl, _, _, _, [], _, [], hW', trodAll_mk1 (shut_bool Tryz.underlying4 _), (trodAll_cons_mk (Below.trod laidOut (by kernel_rfl) (of_decide_eq_true (by kernel_rfl)) k0 bel lt0) (trodAll_cons_mk (Below.trod laidOut (by kernel_rfl) (of_decide_eq_true (by kernel_rfl)) k1 bel lt1) trodAll_mk0)), rfl, bel.frame _, fun h => by cases h⟩
theorem over : Rows.clientAlarmsRow.holds Tryz.pinned (OpenSpec.ofChange Rows.clientAlarmsSpec) :=
  OpenClaim.holds_of_wide 5 Tryz.f5 rfl rfl rfl rfl rfl rfl rfl ⟨rfl, rfl, rfl, rfl, rfl⟩ rfl rfl rfl rfl rfl (by kernel_rfl) Tryz.func5 (by kernel_rfl)
    (of_decide_eq_true (by kernel_rfl)) (by unfold Func.isWrapper; first | (rw [if_pos (by decide +kernel)]; kernel_rfl) | (rw [if_neg (by decide +kernel)]; exact ⟨rfl, rfl⟩))
    (fun os started H enc _ => lifted os started H enc)
end Go.Proofs.YtanpinfhlbbjkaaGreat.clientAlarms
namespace Go.Proofs.YtanpinfhlbbjkaaGreat
theorem ClientAlarms_holds : Rows.ClientAlarmsSaid := clientAlarms.over
end Go.Proofs.YtanpinfhlbbjkaaGreat
