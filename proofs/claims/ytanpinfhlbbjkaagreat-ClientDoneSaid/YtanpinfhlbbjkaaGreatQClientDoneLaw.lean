/-
  When a batch has the first so many of what is pending, these are pending no more, and the others are, in their order; what is seen stays the same.
  Its conditions: none: whatever the input, in whatever memory.
-/
import Derived.Test.YtanpinfhlbbjkaaGreatRows
import Derived.ProofKit
import Derived.OpenShut
import Derived.ShutString
import Derived.ChangeOld
import Derived.Test.YtanpinfhlbbjkaaGreatQClientDoneAnc
import Derived.Test.YtanpinfhlbbjkaaGreatQClientDoneDocC
import Derived.Test.YtanpinfhlbbjkaaGreatQClientDoneLaw18D
set_option linter.unusedVariables false
set_option linter.unusedSimpArgs false
namespace Go.Proofs.YtanpinfhlbbjkaaGreat.clientDone
open Go.ChangeShapes Go.WideShapes Go.ChangeAt Go.RowKit Go.Ecal
open Go.ChangeMaps (open_string shut_string)
set_option maxRecDepth 100000
set_option maxRecDepth 100000 in
theorem opn_113 : Opn Tryz.prog 113 wrapR := fun enc w sp hd fuel cs x h => by
  obtain ⟨xs, n, _, _, hl, hxl, hf⟩ := DataW.trod_struct Tryz.underlying113 h
  have hlen : cs.length = 2 := hl.trans (by kernel_rfl)
  obtain ⟨c0, t0, rfl, l0⟩ := cons_of_len hlen
  obtain ⟨c1, t1, rfl, l1⟩ := cons_of_len l0
  obtain rfl := List.eq_nil_of_length_eq_zero l1
  have e0 : DataW.trod enc Tryz.prog w 0 sp hd n 3 [c0] = xs[0]? := Opn.part hf rfl rfl rfl (k := 1) (by kernel_rfl) rfl
  obtain ⟨a0, h0⟩ := Opn.field (Opn.int Tryz.underlying3) (by rw [hxl]; decide) e0
  have e1 : DataW.trod enc Tryz.prog w 0 sp hd n 26 [c1] = xs[1]? := Opn.part hf rfl rfl rfl (k := 1) (by kernel_rfl) rfl
  obtain ⟨a1, h1⟩ := Opn.field (Opn.bytes Tryz.underlying26 Tryz.underlying5 (by kernel_rfl)) (by rw [hxl]; decide) e1
  obtain ⟨q, rh0⟩ := h0; simp only [List.cons.injEq, and_true] at q; subst q
  obtain ⟨vh1, q, oh1, rh1⟩ := h1; simp only [List.cons.injEq, and_true] at q; subst q
  exact ⟨⟨a0, a1⟩, ⟨_, rfl, rh0, ⟨oh1, rh1⟩⟩⟩
set_option maxRecDepth 100000 in
theorem opn_29 : Opn Tryz.prog 29 entR := fun enc w sp hd fuel cs x h => by
  obtain ⟨xs, n, _, _, hl, hxl, hf⟩ := DataW.trod_struct Tryz.underlying29 h
  have hlen : cs.length = 9 := hl.trans (by kernel_rfl)
  obtain ⟨c0, t0, rfl, l0⟩ := cons_of_len hlen
  obtain ⟨c1, t1, rfl, l1⟩ := cons_of_len l0
  obtain ⟨c2, t2, rfl, l2⟩ := cons_of_len l1
  obtain ⟨c3, t3, rfl, l3⟩ := cons_of_len l2
  obtain ⟨c4, t4, rfl, l4⟩ := cons_of_len l3
  obtain ⟨c5, t5, rfl, l5⟩ := cons_of_len l4
  obtain ⟨c6, t6, rfl, l6⟩ := cons_of_len l5
  obtain ⟨c7, t7, rfl, l7⟩ := cons_of_len l6
  obtain ⟨c8, t8, rfl, l8⟩ := cons_of_len l7
  obtain rfl := List.eq_nil_of_length_eq_zero l8
  have e0 : DataW.trod enc Tryz.prog w 0 sp hd n 3 [c0] = xs[0]? := Opn.part hf rfl rfl rfl (k := 1) (by kernel_rfl) rfl
  obtain ⟨a0, h0⟩ := Opn.field (Opn.int Tryz.underlying3) (by rw [hxl]; decide) e0
  have e1 : DataW.trod enc Tryz.prog w 0 sp hd n 3 [c1] = xs[1]? := Opn.part hf rfl rfl rfl (k := 1) (by kernel_rfl) rfl
  obtain ⟨a1, h1⟩ := Opn.field (Opn.int Tryz.underlying3) (by rw [hxl]; decide) e1
  have e2 : DataW.trod enc Tryz.prog w 0 sp hd n 3 [c2] = xs[2]? := Opn.part hf rfl rfl rfl (k := 1) (by kernel_rfl) rfl
  obtain ⟨a2, h2⟩ := Opn.field (Opn.int Tryz.underlying3) (by rw [hxl]; decide) e2
  have e3 : DataW.trod enc Tryz.prog w 0 sp hd n 26 [c3] = xs[3]? := Opn.part hf rfl rfl rfl (k := 1) (by kernel_rfl) rfl
  obtain ⟨a3, h3⟩ := Opn.field (Opn.bytes Tryz.underlying26 Tryz.underlying5 (by kernel_rfl)) (by rw [hxl]; decide) e3
  have e4 : DataW.trod enc Tryz.prog w 0 sp hd n 26 [c4] = xs[4]? := Opn.part hf rfl rfl rfl (k := 1) (by kernel_rfl) rfl
  obtain ⟨a4, h4⟩ := Opn.field (Opn.bytes Tryz.underlying26 Tryz.underlying5 (by kernel_rfl)) (by rw [hxl]; decide) e4
  have e5 : DataW.trod enc Tryz.prog w 0 sp hd n 3 [c5] = xs[5]? := Opn.part hf rfl rfl rfl (k := 1) (by kernel_rfl) rfl
  obtain ⟨a5, h5⟩ := Opn.field (Opn.int Tryz.underlying3) (by rw [hxl]; decide) e5
  have e6 : DataW.trod enc Tryz.prog w 0 sp hd n 3 [c6] = xs[6]? := Opn.part hf rfl rfl rfl (k := 1) (by kernel_rfl) rfl
  obtain ⟨a6, h6⟩ := Opn.field (Opn.int Tryz.underlying3) (by rw [hxl]; decide) e6
  have e7 : DataW.trod enc Tryz.prog w 0 sp hd n 3 [c7] = xs[7]? := Opn.part hf rfl rfl rfl (k := 1) (by kernel_rfl) rfl
  obtain ⟨a7, h7⟩ := Opn.field (Opn.int Tryz.underlying3) (by rw [hxl]; decide) e7
  have e8 : DataW.trod enc Tryz.prog w 0 sp hd n 27 [c8] = xs[8]? := Opn.part hf rfl rfl rfl (k := 1) (by kernel_rfl) rfl
  obtain ⟨a8, h8⟩ := Opn.field (Opn.list (τ := wrapR) Tryz.underlying27 (by kernel_rfl) (by decide) opn_113) (by rw [hxl]; decide) e8
  obtain ⟨q, rh0⟩ := h0; simp only [List.cons.injEq, and_true] at q; subst q
  obtain ⟨q, rh1⟩ := h1; simp only [List.cons.injEq, and_true] at q; subst q
  obtain ⟨q, rh2⟩ := h2; simp only [List.cons.injEq, and_true] at q; subst q
  obtain ⟨vh3, q, oh3, rh3⟩ := h3; simp only [List.cons.injEq, and_true] at q; subst q
  obtain ⟨vh4, q, oh4, rh4⟩ := h4; simp only [List.cons.injEq, and_true] at q; subst q
  obtain ⟨q, rh5⟩ := h5; simp only [List.cons.injEq, and_true] at q; subst q
  obtain ⟨q, rh6⟩ := h6; simp only [List.cons.injEq, and_true] at q; subst q
  obtain ⟨q, rh7⟩ := h7; simp only [List.cons.injEq, and_true] at q; subst q
  obtain ⟨vh8, q, oh8, rh8⟩ := h8; simp only [List.cons.injEq, and_true] at q; subst q
  exact ⟨⟨a0, a1, a2, a3, a4, a5, a6, a7, a8⟩, ⟨_, _, _, rfl, rh0, rh1, rh2, ⟨oh3, rh3⟩, ⟨oh4, rh4⟩, rh5, rh6, rh7, ⟨oh8, rh8⟩⟩⟩
theorem ClientDone_w (v0 : Value) (l : (List Entry)) (n : Int) (I : Gh) (R : List HP) (w : World) (S : Sat w I (R)) (Q0 : RoX I v0 entR l) (rn : -9223372036854775808 ≤ n ∧ n ≤ 9223372036854775807) : Ret Tryz.prog 6 [v0, .int .i64 n] w fun v w' => ∃ J : Gh, Gh.le I J ∧ .bool true = v ∧ Sat w' J (R) := by
  have lq0 := XRow.le (Q0.row S.le)
  refine ret_E Tryz.func6 rfl Tryz.ntmps6 (by simp) ?_
  refine g8 ?_
  refine yR (anchor_c _ _ _ S) ?_
  rintro _ w0 ⟨I0, le0, rfl, S0⟩
  refine vl _ rfl (dcF (r_not rfl) rfl) ?_
  refine g7 ?_
  refine yR (alone_c _ _ _ S0) ?_
  rintro _ w1 ⟨b0, p0, I1, le1, rfl, S1⟩
  refine g7 ?_
  refine vl (.bool false) rfl (r_eqptrnil rfl rfl U24) ?_
  refine g2 ?_
  refine gl 29 rfl rfl rfl rfl _ rfl (r_lenX rfl (Q0.row (lT (lT le0 le1) S1.le)) U22) ?_
  refine g8 ?_
  refine EC_cond (t := (decide (8 < (l.length : Int))) || (decide (n < 0))) rfl (fun h0 => ?_) (fun h0 => ?_)
  refine g3 ?_
  refine vl (.bool true) rfl (r_neqptrnil rfl rfl U24) ?_
  refine g5 ?_
  refine f1 Tryz.results6 ?_
  exact ⟨I1, (lT le0 le1), rfl, S1.dr0.dr0⟩
  have hg27 : l.length ≤ 8 ∧ 0 ≤ n := by simp at h0; omega
  refine g6 ?_
  refine vl _ rfl (r_lenX rfl (Q0.row (lT (lT le0 le1) S1.le)) U22) ?_
  refine g4 ?_
  refine EC_loop (fun m' E' w' => ∃ i : Nat, ∃ L : List Thing, ∃ c : Cli, ∃ J : Gh, m' = l.length - i ∧ E' 42 = .int .i64 (i : Int) ∧ E' 1 = .int .i64 n ∧ E' 5 = ptr b0 ∧ E' 40 = v0 ∧ E' 41 = .int .i64 (l.length : Int) ∧ (i ≤ l.length) ∧ (DGood L c i) ∧ Gh.le I1 J ∧ Sat w' J (Suite p0 L :: CliP (ptr b0) p0 c :: R)) _ ⟨0, (newR [] 1 1 1 []).1, newC [] 1 1 1 [], I1, rfl, rfl, rfl, rfl, rfl, rfl, Nat.zero_le _, DGood.begin, (Gh.le_refl _), S1.fr1⟩ ?_
  rintro _ E0 w2 ⟨i, L, c, I2, rfl, e0, e1, e2, e3, e4, hi, hd, le2, S2⟩
  refine g6 ?_
  refine EC_if rfl (fun h3 => ?_) (fun h3 => ?_)
  refine g6 ?_
  refine vl (ptr (blkOf v0) (offOf v0 + ((i : Int) : Int).toNat * 9)) rfl (r_indexX (by exact e3) (Q0.row (lT (lT (lT le0 le1) le2) S2.le)) (by exact e0) (by omega) as' U22 (by kernel_rfl)) ?_
  obtain ⟨a0, ha0⟩ := get_some (l := l) (j := ((i : Int) : Int).toNat) as'
  obtain ⟨cs0, hc0, he0⟩ := Q0.el ha0
  obtain ⟨v1, v2, v3, rfl, r0, r1, r2, ⟨o0, H0⟩, ⟨o1, H1⟩, r3, r4, r5, ⟨o2, H2⟩⟩ := hc0
  refine vl (.agg ((entRC a0 v1 v2 v3)).toArray) rfl (r_loadR (cs := (entRC a0 v1 v2 v3)) rfl (he0 _ (lT (lT (lT le0 le1) le2) S2.le)) U29 rfl (by kernel_rfl)) ?_
  refine yN entR0 S2 ?_
  intro b1 w3 S3
  refine yW0 S3 ?_ (h1 := ones_cons rfl (ones_cons rfl (ones_cons rfl (ones_cons o0 (ones_cons o1 (ones_cons rfl (ones_cons rfl (ones_cons rfl (ones_cons o2 ones_nil)))))))))
  intro w4 S4
  refine g6 ?_
  refine yR (Small_c (entRC a0 v1 v2 v3) a0 _ _ _ S4 ⟨v1, v2, v3, rfl, ad, ad, ad, ⟨o0, (H0.up (lT (lT le0 le1) le2))⟩, ⟨o1, (H1.up (lT (lT le0 le1) le2))⟩, ad, ad, ad, ⟨o2, (H2.up (lT (lT le0 le1) le2))⟩⟩) ?_
  rintro _ w5 ⟨rfl, S5⟩
  refine g3 ?_
  refine EC_cond (t := !(smallE a0)) rfl (fun h4 => ?_) (fun h4 => ?_)
  simp only [Bool.and_eq_true, Bool.or_eq_true, Bool.not_eq_true', Bool.not_eq_false', decide_eq_true_eq, decide_eq_false_iff_not, Bool.and_eq_false_iff, Bool.or_eq_false_iff, Bool.not_eq_true, Bool.not_eq_false, bne_iff_ne, beq_iff_eq, beq_eq_false_iff_ne] at h4
  refine g12 ?_
  refine f1 Tryz.results6 ?_
  exact ⟨I2, (lT (lT le0 le1) le2), rfl, S5.dr0.dr0.dr0⟩
  simp only [Bool.and_eq_true, Bool.or_eq_true, Bool.not_eq_true', Bool.not_eq_false', decide_eq_true_eq, decide_eq_false_iff_not, Bool.and_eq_false_iff, Bool.or_eq_false_iff, Bool.not_eq_true, Bool.not_eq_false, bne_iff_ne, beq_iff_eq, beq_eq_false_iff_ne] at h4
  refine g5 ?_
  refine yR (LIssue_c _ _ _ (entRC a0 v1 v2 v3) a0 _ _ _ _ S5.fr1.fr2 ⟨v1, v2, v3, rfl, ad, ad, ad, ⟨o0, (H0.up (lT (lT le0 le1) le2))⟩, ⟨o1, (H1.up (lT (lT le0 le1) le2))⟩, ad, ad, ad, ⟨o2, (H2.up (lT (lT le0 le1) le2))⟩⟩ (by have := hd.good.len; omega)) ?_
  rintro _ w6 ⟨I3, le3, rfl, S6⟩
  refine g4 ?_
  refine EL_int ((i : Int) + 1) rfl (r_addi (by exact e0) rfl (by omega)) ?_
  intro x0 hx82
  refine g3 ?_
  refine ⟨_, ?_, i + 1, c.issueL L a0, c.issueS L a0, I3, rfl, (Eq.trans (show _ = Value.int .i64 x0 from rfl) (congrArg _ (by omega))), (by exact e1), (by exact e2), (by exact e3), (by exact e4), by omega, hd.issue, (lT le2 le3), S6.dr2.fr1⟩
  first | omega | (simp; omega)
  refine g8 ?_
  have S7 := S2.fr1
  obtain ⟨bb86, wv86, rv86, pv86, hq86, cok86, hrv86, Hw86, So86⟩ := CliP.opn S7
  obtain rfl : b0 = bb86 := by injection hq86 with hq; injection hq with hq; injection hq
  have lwv86 := RoB.le Hw86 So86.le
  have S8 := So86.fr2
  refine yR (LPend_c _ _ _ _ _ c _ _ _ S8.fr1 cok86.pend8 (fun w hw => (cok86.pendR w hw).1)) ?_
  rintro _ w7 ⟨v4, I4, le4, rfl, S9⟩
  have hpe : c.pendE.length = c.pend.length := List.length_map _
  have hpl := push_lenE hd.good.al
  have hp8 := hd.good.ok.pend8
  have hvs := hd.good.ok.view_small
  have oH97 := (OwnX.one S9 0 rfl (by decide))
  obtain ⟨I5, le5, S10, H3⟩ := S9.fx0 (by decide)
  refine g6 ?_
  have S11 : Sat _ _ (CliP (ptr b0) p0 c :: _) := CliP.cls (c := c) (wv := wv86) (rv := rv86) (pv := pv86) cok86 hrv86 (Hw86.up (lT le4 le5)) S10.fr1.fr2.fr2
  refine yR (LSee_c _ _ _ _ _ _ S11) ?_
  rintro _ w8 ⟨cs1, q0, I6, le6, rfl, h5, S12⟩
  obtain ⟨v5, rfl, r6, r7, ⟨o3, H4⟩⟩ := h5
  refine g3 ?_
  refine yN polR0 S12 ?_
  intro b2 w9 S13
  refine yW0 S13 ?_ (h1 := ones_cons rfl (ones_cons rfl (ones_cons o3 ones_nil)))
  intro w10 S14
  refine g6 ?_
  refine yR (LPush_c _ _ _ _ _ _ S14.fr2) ?_
  rintro _ w11 ⟨v6, I7, le7, rfl, S15⟩
  have oH135 := (OwnX.one S15 0 rfl (by decide))
  obtain ⟨I8, le8, S16, H5⟩ := S15.fx0 (by decide)
  refine g11 ?_
  refine vl _ rfl (dcF (r_neq rfl rfl) (by simp [Cli.pushE, hd.good.al])) ?_
  refine g2 ?_
  refine gl 67 rfl rfl rfl rfl _ rfl (r_lenX rfl (H5.row S16.le) U33) ?_
  refine g1 ?_
  refine gl 67 rfl rfl rfl rfl _ rfl (r_lenX rfl (H3.row (lT (lT (lT le6 le7) le8) S16.le)) U22) (gl  67 rfl rfl rfl rfl (.int .i64 (if 1 < (c.pendE.length : Int) then 1 else (c.pendE.length : Int))) rfl (r_min rfl rfl) (gl 67 rfl rfl rfl rfl _ rfl (dcF (r_neq rfl rfl) (by simp only [decide_eq_false_iff_not, ne_eq, Classical.not_not, hpl, hpe]; split <;> split <;> omega)) ?_))
  refine g10 ?_
  refine vl _ rfl (r_lenX rfl (H5.row S16.le) U33) ?_
  refine g3 ?_
  refine EC_if rfl (fun h6 => ?_) (fun h6 => ?_)
  refine g7 ?_
  refine f1 Tryz.results6 ?_
  exact ⟨I8, (lT (lT (lT (lT (lT (lT (lT le0 le1) le2) le4) le5) le6) le7) le8), rfl, S16.dr0.dr0.dr0.dr0⟩
  have hp0 : 0 < c.pend.length := Nat.pos_of_ne_zero (fun q => h6 (by rw [hpl, if_pos q]; rfl))
  have hp1 : c.pushR.length = 1 := by rw [hpl, if_neg (by omega)]
  have hbk := push_back hd.good.ok hp0
  have hfl : (frV c.pushF.encB).links.length = c.pend.length := by rw [hbk]; exact List.length_map _
  refine g5 ?_
  refine vl (ptr (blkOf v6) (offOf v6 + (0 : Int).toNat * 1)) rfl (r_indexX rfl (H5.row S16.le) rfl (by omega) as' U33 (by kernel_rfl)) ?_
  have ha1 : (c.pushR)[(0 : Int).toNat]? = some c.pushF.encB := by rw [push_one hd.good.al hp0]; rfl
  obtain ⟨cs2, hc1, he1⟩ := H5.el ha1
  obtain ⟨v7, rfl, o4, H6⟩ := hc1
  refine vl _ rfl (r_load0 rfl (he1 _ S16.le) U26 rfl) ?_
  refine yR (FDec_c _ _ _ _ _ S16 H6) ?_
  rintro _ w12 ⟨cs3, I9, le9, rfl, h7, S17⟩
  obtain ⟨v8, v9, rfl, r8, r9, r10, ⟨o5, H7⟩, ⟨o6, H8⟩⟩ := h7
  refine g3 ?_
  refine yN frmR0 S17 ?_
  intro b3 w13 S18
  refine yW0 S18 ?_ (h1 := ones_cons rfl (ones_cons rfl (ones_cons rfl (ones_cons o5 (ones_cons o6 ones_nil)))))
  intro w14 S19
  refine g7 ?_
  refine vl _ rfl (r_lenX rfl (H3.row (lT (lT (lT (lT le6 le7) le8) le9) S19.le)) U22) ?_
  refine EL_int ((c.pendE.length : Int) + 1) rfl (r_addi rfl rfl (by omega)) ?_
  intro x1 hx176
  refine EL_int (n % x1) rfl (r_remi rfl rfl (by omega) (by omega)) ?_
  intro x2 hx177
  have m0 := Int.emod_nonneg n (b := x1) (by omega)
  have m1 := Int.emod_lt_of_pos n (b := x1) (by omega)
  refine g4 ?_
  have hN0 : 0 ≤ x2 ∧ x2 ≤ (c.pend.length : Int) := by first | (constructor <;> omega) | (have := Int.emod_nonneg n (show (c.pendE.length : Int) + 1 ≠ 0 by omega); have := Int.emod_lt_of_pos n (show 0 < (c.pendE.length : Int) + 1 by omega); omega)
  have hN : (x2).toNat ≤ c.pend.length := by omega
  have hdn := hd.done (n := (x2).toNat) (by omega) hN
  skip
  refine yJ 5 (fun w' => Arr w' b3 68 (frmRC (frV c.pushF.encB) v8 v9)) S19 ?_
  intro w15 S20
  refine yT 0 S20.le (S20.a0) ?_
  refine yT 1 S20.le (S20.a0) ?_
  refine yF 2 S20.le (S20.a0) ?_
  refine jF 3 rfl (by kernel_rfl) (cutW v8 1 0 ((x2 : Int).toNat)) rfl (fun _ hw => r_sliceX rfl (H7.row hw) U33 (by kernel_rfl) 0 ((x2 : Int).toNat) as' as' (.inl ⟨rfl, rfl⟩) (.inr ⟨_, _, rfl, (show _ = Value.int .i64 ((x2 : Int).toNat : Int) from by rw [Int.toNat_of_nonneg (by omega)]; exact rfl)⟩)) ⟨S20.le, fun h => S20.a0⟩ ?_
  have H9 : RoX I9 (cutW v8 1 0 ((x2 : Int).toNat)) bytesR (((frV c.pushF.encB).links).take ((x2 : Int).toNat)) := rox_as (H7.cut 0 ((x2 : Int).toNat) as' as') (by simp)
  refine yT 4 S20.le (S20.a0) ?_
  refine y1 5 ?_
  refine yS0 S20 ?_
  intro w16 S21
  refine ym S21.le ?_
  refine yf 6 S21.le ?_
  refine y1 7 ?_
  refine yS0 S21 ?_ (hu := XRow.one (H9.row S21.le))
  intro w17 S22
  refine ym S22.le ?_
  refine yd ?_
  refine g4 ?_
  refine yR (FEnc_c [.int .i64 3, .int .i64 ((frV c.pushF.encB).coll), .int .i64 ((frV c.pushF.encB).index), (cutW v8 1 0 ((x2 : Int).toNat)), v9] (⟨3, (frV c.pushF.encB).coll, (frV c.pushF.encB).index, ((frV c.pushF.encB).links).take ((x2 : Int).toNat), (frV c.pushF.encB).sum⟩ : FrameT) _ _ _ S22 ⟨(cutW v8 1 0 ((x2 : Int).toNat)), v9, rfl, (by dsimp only; omega), ad, ad, ⟨(XRow.one (H9.row S22.le)), H9⟩, ⟨o6, H8⟩⟩) ?_
  rintro _ w18 ⟨v10, I10, le10, rfl, S23⟩
  have q1 : (⟨3, (frV c.pushF.encB).coll, (frV c.pushF.encB).index, ((frV c.pushF.encB).links).take ((x2 : Int).toNat), (frV c.pushF.encB).sum⟩ : FrameT).encB = (c.part (x2).toNat).encB := congrArg FrameT.encB (part_is hd.good.ok hp0)
  have S24 := S23.ab0 q1
  refine g11 ?_
  obtain ⟨I11, le11, S25, H10⟩ := S24.fb0
  refine yR (LTake_c _ _ _ _ _ _ _ _ _ S25.fr4.fr2 H10 (by have := hd.good.len; omega) (texts_ok hd.good.txt)) ?_
  rintro _ w19 ⟨v11, I12, le12, rfl, S26⟩
  refine g10 ?_
  have S27 := S26.fr1
  obtain ⟨bb213, wv213, rv213, pv213, hq213, cok213, hrv213, Hw213, So213⟩ := CliP.opn S27
  obtain rfl : b0 = bb213 := by injection hq213 with hq; injection hq with hq; injection hq
  have lwv213 := RoB.le Hw213 So213.le
  have S28 := So213.fr2
  refine yR (LPend_c _ _ _ _ _ ((c.takeS L ((c.part (x2).toNat).encB)).2) _ _ _ S28.fr1 cok213.pend8 (fun w hw => (cok213.pendR w hw).1)) ?_
  rintro _ w20 ⟨v12, I13, le13, rfl, S29⟩
  have q2 : ((c.takeS L ((c.part (x2).toNat).encB)).2).pendE = c.pendE.drop (x2 : Int).toNat := by rw [Cli.pendE, hdn.pend, List.map_drop]; rfl
  have S30 := S29.ax0 q2
  have hdl : (c.pendE.drop ((x2 : Int).toNat)).length = c.pend.length - (x2 : Int).toNat := by rw [List.length_drop, hpe]
  have oH226 := (OwnX.one S30 0 rfl (by decide))
  obtain ⟨I14, le14, S31, H11⟩ := S30.fx0 (by decide)
  refine g6 ?_
  have S32 : Sat _ _ (CliP (ptr b0) p0 ((c.takeS L ((c.part (x2).toNat).encB)).2) :: _) := CliP.cls (c := ((c.takeS L ((c.part (x2).toNat).encB)).2)) (wv := wv213) (rv := rv213) (pv := pv213) cok213 hrv213 (Hw213.up (lT le13 le14)) S31.fr1.fr2.fr2
  refine yR (LSee_c _ _ _ _ _ _ S32) ?_
  rintro _ w21 ⟨cs4, q3, I15, le15, rfl, h8, S33⟩
  obtain ⟨v13, rfl, r11, r12, ⟨o7, H12⟩⟩ := h8
  have q4 : ((c.takeS L ((c.part (x2).toNat).encB)).2).view.2 = c.view.2 := hdn.docs
  have S34 := Sat.ah0 (DocsP q3) S33 q4
  refine g3 ?_
  refine yN polR0 S34 ?_
  intro b4 w22 S35
  refine yW0 S35 ?_ (h1 := ones_cons rfl (ones_cons rfl (ones_cons o7 ones_nil)))
  intro w23 S36
  refine g7 ?_
  refine vl _ rfl (dcF (r_neq rfl rfl) (decide_eq_false (fun q => q hdn.take))) ?_
  refine g2 ?_
  refine gl  116 rfl rfl rfl rfl (.int .i64 ((c.takeO L ((c.part (x2).toNat).encB)).length : Int)) rfl (lenF (r_len rfl (own_row (S36.own 3 rfl)) U48)) ?_
  refine g1 ?_
  refine gl 116 rfl rfl rfl rfl _ rfl (dcF (r_neq rfl rfl) (decide_eq_false (fun q => q (by rw [hdn.outs]; omega)))) ?_
  refine g3 ?_
  refine gl 122 rfl rfl rfl rfl _ rfl (r_lenX rfl (H11.row (lT le15 S36.le)) U22) ?_
  refine g1 ?_
  refine gl 122 rfl rfl rfl rfl _ rfl (r_lenX rfl (H3.row (lT (lT (lT (lT (lT (lT (lT (lT (lT (lT le6 le7) le8) le9) le10) le11) le12) le13) le14) le15) S36.le)) U22) ?_
  refine g1 ?_
  refine gl  122 rfl rfl rfl rfl (.int .i64 ((c.pendE.length : Int) - x2)) rfl (r_subi rfl rfl (by omega)) (gl 122 rfl rfl rfl rfl _ rfl (dcF (r_neq rfl rfl) (decide_eq_false (fun q => q (by rw [List.length_drop, hpe]; omega)))) ?_)
  refine g3 ?_
  refine yG (DAll_c _ _ _ _ _ S36.fr7 hvs.1 hvs.2) ?_
  rintro _ w24 ⟨v14, I16, le16, rfl, S37⟩
  refine g1 ?_
  refine yG (DAll_c _ _ _ _ _ S37.fr3 hvs.1 hvs.2) ?_
  rintro _ w25 ⟨v15, I17, le17, rfl, S38⟩
  have oH273 := (OwnX.one S38 2 rfl (by decide))
  obtain ⟨I18, le18, S39, H13⟩ := S38.fx2 (by decide)
  have oH277 := (OwnX.one S39 0 rfl (by decide))
  obtain ⟨I19, le19, S40, H14⟩ := S39.fx0 (by decide)
  refine yG (LwSame_c _ _ _ _ _ _ _ S40 (H13.up le19) H14 hvs.1 hvs.1) ?_
  rintro _ w26 ⟨I20, le20, rfl, S41⟩
  refine gl 131 rfl rfl rfl rfl _ rfl (nF rfl (decide_eq_true rfl)) ?_
  refine g10 ?_
  refine vl _ rfl (r_lenX rfl (H11.row (lT (lT (lT (lT (lT (lT le15 le16) le17) le18) le19) le20) S41.le)) U22) ?_
  refine g4 ?_
  refine EC_loop (fun m' E' w' => ∃ k : Nat, ∃ J : Gh, m' = c.pend.length - (x2 : Int).toNat - k ∧ E' 141 = .int .i64 (k : Int) ∧ E' 1 = .int .i64 x2 ∧ E' 8 = v4 ∧ E' 139 = v12 ∧ E' 140 = .int .i64 ((c.pendE.drop (x2 : Int).toNat).length : Int) ∧ (k ≤ c.pend.length - (x2 : Int).toNat) ∧ Gh.le I20 J ∧ Sat w' J (DocsP q3 c.view.2 :: DocsP q0 c.view.2 :: Blk b4 63 (polRC (((c.takeS L ((c.part (x2).toNat).encB)).2).view.1) v13) :: CliP (ptr b0) p0 ((c.takeS L ((c.part (x2).toNat).encB)).2) :: Own 31 1 v11 (c.takeO L ((c.part (x2).toNat).encB)).length ((c.takeO L ((c.part (x2).toNat).encB)).map (Value.int .i64)) :: Suite p0 ((c.takeS L ((c.part (x2).toNat).encB)).1) :: Blk b3 68 [.int .i64 3, .int .i64 ((frV c.pushF.encB).coll), .int .i64 ((frV c.pushF.encB).index), (cutW v8 1 0 ((x2 : Int).toNat)), v9] :: Blk b2 63 (polRC c.view.1 v5) :: R)) _ ⟨0, I20, rfl, rfl, rfl, rfl, rfl, rfl, Nat.zero_le _, (Gh.le_refl _), S41⟩ ?_
  rintro _ E1 w27 ⟨k, I21, rfl, e5, e6, e7, e8, e9, hk, le21, S42⟩
  refine g6 ?_
  refine EC_if rfl (fun h9 => ?_) (fun h9 => ?_)
  refine g7 ?_
  refine vl (ptr (blkOf v12) (offOf v12 + ((k : Int) : Int).toNat * 9)) rfl (r_indexX (by exact e8) (H11.row (lT (lT (lT (lT (lT (lT (lT le15 le16) le17) le18) le19) le20) le21) S42.le)) (by exact e5) (by omega) as' U22 (by kernel_rfl)) ?_
  obtain ⟨a1, ha2⟩ := get_some (l := c.pendE.drop (x2 : Int).toNat) (j := ((k : Int) : Int).toNat) as'
  obtain ⟨cs5, hc2, he2⟩ := H11.el ha2
  obtain ⟨v16, v17, v18, rfl, r13, r14, r15, ⟨o8, H15⟩, ⟨o9, H16⟩, r16, r17, r18, ⟨o10, H17⟩⟩ := hc2
  refine vl (.agg ((entRC a1 v16 v17 v18)).toArray) rfl (r_loadR (cs := (entRC a1 v16 v17 v18)) rfl (he2 _ (lT (lT (lT (lT (lT (lT (lT le15 le16) le17) le18) le19) le20) le21) S42.le)) U29 rfl (by kernel_rfl)) ?_
  refine yN entR0 S42 ?_
  intro b5 w28 S43
  refine g1 ?_
  refine yW0 S43 ?_ (h1 := ones_cons rfl (ones_cons rfl (ones_cons rfl (ones_cons o8 (ones_cons o9 (ones_cons rfl (ones_cons rfl (ones_cons rfl (ones_cons o10 ones_nil)))))))))
  intro w29 S44
  refine g3 ?_
  refine yJ 7 (fun w' => Arr w' b5 29 (entRC a1 v16 v17 v18)) S44 ?_
  intro w30 S45
  refine yT 0 S45.le (S45.a0) ?_
  refine yT 1 S45.le (S45.a0) ?_
  refine yT 2 S45.le (S45.a0) ?_
  refine yT 3 S45.le (S45.a0) ?_
  obtain ⟨x3, hx328⟩ : ∃ z : Int, z = x2 + (k : Int) := ⟨_, rfl⟩
  refine jT 4 rfl (by kernel_rfl) (.int .i64 x3) rfl (fun _ hw ht => by rw [hx328]; exact r_addi rfl rfl (by omega)) ⟨S45.le, fun h => S45.a0⟩ ?_
  refine jT 5 rfl (by kernel_rfl) (ptr (blkOf v4) (offOf v4 + (x3 : Int).toNat * 9)) rfl (fun _ hw ht => r_indexX rfl (H3.row (lT (lT (lT (lT (lT (lT (lT (lT (lT (lT (lT (lT (lT (lT (lT (lT le6 le7) le8) le9) le10) le11) le12) le13) le14) le15) le16) le17) le18) le19) le20) le21) hw)) rfl (by omega) as' U22 (by kernel_rfl)) ⟨S45.le, fun h => S45.a0⟩ ?_
  obtain ⟨a2, ha3⟩ := get_some (l := c.pendE) (j := (x3 : Int).toNat) as'
  obtain ⟨cs6, hc3, he3⟩ := H3.el ha3
  obtain ⟨v19, v20, v21, rfl, r19, r20, r21, ⟨o11, H18⟩, ⟨o12, H19⟩, r22, r23, r24, ⟨o13, H20⟩⟩ := hc3
  refine jT 6 rfl (by kernel_rfl) (.agg ((entRC a2 v19 v20 v21)).toArray) rfl (fun _ hw ht => r_loadR (cs := (entRC a2 v19 v20 v21)) rfl (he3 _ (lT (lT (lT (lT (lT (lT (lT (lT (lT (lT (lT (lT (lT (lT (lT (lT le6 le7) le8) le9) le10) le11) le12) le13) le14) le15) le16) le17) le18) le19) le20) le21) hw)) U29 rfl (by kernel_rfl)) ⟨S45.le, fun h => S45.a0⟩ ?_
  refine y1 7 ?_
  refine yR (Same_c (entRC a1 v16 v17 v18) (entRC a2 v19 v20 v21) a1 a2 _ _ _ S45 ⟨v16, v17, v18, rfl, ad, ad, ad, ⟨o8, (H15.up (lT (lT (lT (lT (lT (lT le15 le16) le17) le18) le19) le20) le21))⟩, ⟨o9, (H16.up (lT (lT (lT (lT (lT (lT le15 le16) le17) le18) le19) le20) le21))⟩, ad, ad, ad, ⟨o10, (H17.up (lT (lT (lT (lT (lT (lT le15 le16) le17) le18) le19) le20) le21))⟩⟩ ⟨v19, v20, v21, rfl, ad, ad, ad, ⟨o11, (H18.up (lT (lT (lT (lT (lT (lT (lT (lT (lT (lT (lT (lT (lT (lT (lT le6 le7) le8) le9) le10) le11) le12) le13) le14) le15) le16) le17) le18) le19) le20) le21))⟩, ⟨o12, (H19.up (lT (lT (lT (lT (lT (lT (lT (lT (lT (lT (lT (lT (lT (lT (lT le6 le7) le8) le9) le10) le11) le12) le13) le14) le15) le16) le17) le18) le19) le20) le21))⟩, ad, ad, ad, ⟨o13, (H20.up (lT (lT (lT (lT (lT (lT (lT (lT (lT (lT (lT (lT (lT (lT (lT le6 le7) le8) le9) le10) le11) le12) le13) le14) le15) le16) le17) le18) le19) le20) le21))⟩⟩) ?_
  rintro _ w31 ⟨rfl, S46⟩
  refine ym S46.le ?_
  refine jF 8 rfl (by kernel_rfl) (.bool false) rfl (fun _ hw => r_dec (show (!true) = false from rfl) (r_not (Eq.trans (show _ = Value.bool (decide (a1 = a2)) from rfl) (congrArg Value.bool (show (decide (a1 = a2)) = true from (decide_eq_true (by have h1 := ha2; have h2 := ha3; rw [List.getElem?_drop] at h1; rw [show (x3 : Int).toNat = (x2 : Int).toNat + (k : Int).toNat by omega] at h2; exact Option.some.inj (h1.symm.trans h2)))))))) ⟨S46.le, fun h => by cases h⟩ ?_
  refine yd ?_
  refine g6 ?_
  refine EL_int ((k : Int) + 1) rfl (r_addi (by exact e5) rfl (by omega)) ?_
  intro x4 hx351
  refine g3 ?_
  refine ⟨_, ?_, k + 1, I21, rfl, (Eq.trans (show _ = Value.int .i64 x4 from rfl) (congrArg _ (by omega))), (by exact e6), (by exact e7), (by exact e8), (by exact e9), by omega, le21, S46.dr0⟩
  first | omega | (simp; omega)
  refine g11 ?_
  refine f1 Tryz.results6 ?_
  exact ⟨I21, (lT (lT (lT (lT (lT (lT (lT (lT (lT (lT (lT (lT (lT (lT (lT (lT (lT (lT (lT (lT le0 le1) le2) le4) le5) le6) le7) le8) le9) le10) le11) le12) le13) le14) le15) le16) le17) le18) le19) le20) le21), rfl, S42.dr0.dr0.dr0.dr0.dr0.dr0.dr0.dr0⟩
theorem ClientDone_c (v0 : Value) (l : (List Entry)) (n : Int) (w : World) (H0 : RoX (gh w) v0 entR l) (rn : -9223372036854775808 ≤ n ∧ n ≤ 9223372036854775807) : Ret Tryz.prog 6 [v0, .int .i64 n] w fun v w' => v = .bool true ∧ Below w.heap.size w w' :=
  (ClientDone_w v0 l n (gh w) [] w (Sat.start w) H0 rn).mono fun v w' h => by obtain ⟨J, le, e, S⟩ := h; exact ⟨e.symm, S.fin le⟩
theorem own : ownKnob Tryz.prog.godebug = none := by kernel_rfl
theorem laidOut : laidOutB Tryz.prog = true := by kernel_rfl
set_option maxRecDepth 100000 in
theorem lifted (os : Os) (started : os.Started) (H : Type) (enc : TypeId × Value → H) :
    ReturnsInHanded {} Tryz.checked os 6 .any (Rows.clientDoneSpec.pre6 enc Tryz.prog Tryz.f6 Rows.clientDoneRow.domain false) (Rows.clientDoneSpec.post enc Tryz.prog Tryz.f6 false true false false) := by
  refine returnsInHanded_of_change (C := Tryz.checked) own started (by kernel_rfl) Tryz.func6
    (ChangeSpec.witness6 (enc := enc) (C := Tryz.checked) false ⟨#[], #[.slice none 0 0, .int .i64 0], []⟩ 8 (by kernel_rfl) (by kernel_rfl) (by kernel_rfl) (by kernel_rfl)) ?_
  intro W base args ds gs before hval0 hW hcnd _
  have hval : ∀ (j : Nat) t v, Tryz.f6.params[j]? = some t → args[j]? = some v → Value.okWide Tryz.prog W .any base t v := hval0
  have hW' := hW
  obtain ⟨p, q, hA0, hV, rfl, hfz, hnd⟩ := hW
  have hA : DataW.TrodAll enc Tryz.prog W 0 (fun _ => true) true Tryz.f6.params.toList args.toList ds p := hA0
  rw [Tryz.params6] at hA hval
  obtain ⟨v0, vs0, d0, ds0, p0, q0, hargs, rfl, rfl, h0, r0⟩ := trodAll_cons hA
  obtain ⟨v1, vs1, d1, ds1, p1, q1, rfl, rfl, rfl, h1, r1⟩ := trodAll_cons r0
  obtain ⟨rfl, rfl, rfl⟩ := trodAll_nil r1
  obtain rfl : args = #[v0, v1] := by cases args; simp_all
  obtain ⟨rfl, rfl⟩ := trodVars_none hV
  have k0 := h0
  have lt0 : ∀ x ∈ p0, x.block < W.heap.size := by obtain ⟨m, hm⟩ := k0; exact DataW.trod_lt m _ _ _ hm
  obtain ⟨a0, len0, cap0, rfl⟩ := okWide_slice Tryz.underlying22 (hval 0 22 v0 rfl rfl)
  obtain ⟨b0, H0⟩ : ∃ l, RoX (gh W) (.slice a0 len0 cap0) entR l := by
    obtain ⟨fuel, hf⟩ := h0
    obtain ⟨l, v, hv, _, H⟩ := (Opn.list (τ := entR) Tryz.underlying22 (by kernel_rfl) (by decide) opn_29) _ W _ _ _ _ _ hf
    simp [Value.cells] at hv
    subst hv
    exact ⟨l, H⟩
  have k1 := h1
  have lt1 : ∀ x ∈ p1, x.block < W.heap.size := by obtain ⟨m, hm⟩ := k1; exact DataW.trod_lt m _ _ _ hm
  obtain ⟨a1, rfl, rfl, rfl, w1⟩ := open_int Tryz.underlying3 (hval 1 3 v1 rfl rfl) h1
  clear hA0 hval0
  refine Calls.mono (ClientDone_c (.slice a0 len0 cap0) b0 a1 W H0 (rng_i64 w1)) fun e W' ⟨v', he, hv, bel⟩ => ?_
  subst he
  subst hv
  exact ⟨_, rfl, _, _, _, [], _, [], hW', trodAll_mk1 (shut_bool Tryz.underlying4 _), (trodAll_cons_mk (Below.trod laidOut (by kernel_rfl) (of_decide_eq_true (by kernel_rfl)) k0 bel lt0) (trodAll_cons_mk (Below.trod laidOut (by kernel_rfl) (of_decide_eq_true (by kernel_rfl)) k1 bel lt1) trodAll_mk0)), rfl, bel.frame _, fun h => by cases h⟩
theorem over : Rows.clientDoneRow.holds Tryz.pinned (OpenSpec.ofChange Rows.clientDoneSpec) :=
  OpenClaim.holds_of_wide 6 Tryz.f6 rfl rfl rfl rfl rfl rfl rfl ⟨rfl, rfl, rfl, rfl, rfl⟩ rfl rfl rfl rfl rfl (by kernel_rfl) Tryz.func6 (by kernel_rfl)
    (of_decide_eq_true (by kernel_rfl)) (by unfold Func.isWrapper; first | (rw [if_pos (by decide +kernel)]; kernel_rfl) | (rw [if_neg (by decide +kernel)]; exact ⟨rfl, rfl⟩))
    (fun os started H enc _ => lifted os started H enc)
end Go.Proofs.YtanpinfhlbbjkaaGreat.clientDone
namespace Go.Proofs.YtanpinfhlbbjkaaGreat
theorem ClientDone_holds : Rows.ClientDoneSaid := clientDone.over
end Go.Proofs.YtanpinfhlbbjkaaGreat
