import Derived.Test.YtanpinfhlbbjkaaGreatQClientSeesRngA
import Derived.Test.YtanpinfhlbbjkaaGreatQClientSeesSea
set_option linter.unusedVariables false
set_option linter.unusedSimpArgs false
set_option maxRecDepth 100000
set_option maxHeartbeats 4000000
namespace Go.Proofs.YtanpinfhlbbjkaaGreat
open Go.RowKit Go.Ecal

theorem RSeal_c (p : Value) (L : List Thing) (v0 : Value) (s : List UInt8) (v1 : Value) (k : List UInt8) (cr : List Value) (r : Record) (ce : List Value) (e : Entry) (I : Gh) (R : List HP) (w : World) (S : Sat w I (Suite p L :: R)) (Q0 : RoB I v0 s) (Q1 : RoB I v1 k) (hr : recR.r I cr r) (he : entR.r I ce e) (hl : L.length ≤ 800000) (hs : s.length ≤ 100000) : Ret Tryz.prog 98 [p, v0, v1, .agg cr.toArray, .agg ce.toArray] w fun v w' => ∃ cq : List Value, ∃ J : Gh, Gh.le I J ∧ .tuple #[.agg cq.toArray, .int .i64 (sealRE k r e)] = v ∧ recR.r J cq (sealRR L s k r e) ∧ Sat w' J (Suite p (sealRL L s k r e) :: R) := by
  have lq0 := RoB.le Q0 S.le
  have lq1 := RoB.le Q1 S.le
  obtain ⟨v2, rfl, r0, r1, r2, r3, ⟨o0, H0⟩⟩ := hr
  obtain ⟨v3, v4, v5, rfl, r4, r5, r6, ⟨o1, H1⟩, ⟨o2, H2⟩, r7, r8, r9, ⟨o3, H3⟩⟩ := he
  refine ret_E Tryz.func98 rfl Tryz.ntmps98 (by simp) ?_
  refine g2 ?_
  refine yB (cs := recRC r v2) S ?_
  intro b0 w0 S0
  refine yB (cs := entRC e v3 v4 v5) S0 ?_
  intro b1 w1 S1
  refine yN recR0 S1 ?_
  intro b2 w2 S2
  refine g6 ?_
  refine yR (Encode_c (entRC e v3 v4 v5) e _ _ _ S2 ⟨v3, v4, v5, rfl, ad, ad, ad, ⟨o1, H1⟩, ⟨o2, H2⟩, ad, ad, ad, ⟨o3, H3⟩⟩) ?_
  rintro _ w3 ⟨v6, I0, le0, rfl, S3⟩
  refine g10 ?_
  rcases first4 (e.right = true) (e.writer = r.writer) (k.length = 32) (r.nums = true) with hc | hc | hc | hc | hc
  have hr0 : e.right = false := by simpa using hc
  have hE : sealRE k r e = 10 := by rw [sealRE, if_pos (by rw [encE_wrong hr0]; decide), encE_wrong hr0]
  refine g2 ?_
  refine vl _ rfl (dcT (r_neq rfl rfl) (by rw [encE_wrong hr0]; rfl)) ?_
  refine g6 ?_
  refine vl _ rfl (gB recR0 st_196 rfl fill_end) ?_
  refine g1 ?_
  refine yW1 S3 ?_
  intro w4 S4
  refine g6 ?_
  refine f2c Tryz.results98 ?_
  rw [show sealRL L s k r e = L from if_neg (by rw [hE]; decide)]
  have q0 : (sealRR L s k r e) = (⟨0, 0, 0, 0, []⟩ : Record) := by rw [sealRR, if_neg (by rw [hE]; decide)]; rfl
  exact ⟨recR0, I0, le0, (by rw [hE, encE_wrong hr0]), (by rw [q0]; exact (recRz _)), S4.dr0.dr0.dr0.dr0⟩
  have hE : sealRE k r e = 40 := by rw [sealRE, if_neg (by rw [encE_right hc.1]; decide), if_pos hc.2]
  refine g2 ?_
  refine vl _ rfl (dcF (r_neq rfl rfl) (by rw [encE_right hc.1]; rfl)) ?_
  refine g10 ?_
  refine vl _ rfl (dcT (r_neq rfl rfl) (by simpa using hc.2)) ?_
  refine g6 ?_
  refine vl _ rfl (gB recR0 st_196 rfl fill_end) ?_
  refine yW1 S3 ?_
  intro w5 S5
  refine g6 ?_
  refine f2c Tryz.results98 ?_
  rw [show sealRL L s k r e = L from if_neg (by rw [hE]; decide)]
  have q1 : (sealRR L s k r e) = (⟨0, 0, 0, 0, []⟩ : Record) := by rw [sealRR, if_neg (by rw [hE]; decide)]; rfl
  exact ⟨recR0, I0, le0, (by rw [hE]), (by rw [q1]; exact (recRz _)), S5.dr0.dr0.dr0.dr0⟩
  have hE : sealRE k r e = 21 := by rw [sealRE, if_neg (by rw [encE_right hc.1]; decide), if_neg (fun h => h hc.2.1), if_pos hc.2.2]
  refine g2 ?_
  refine vl _ rfl (dcF (r_neq rfl rfl) (by rw [encE_right hc.1]; rfl)) ?_
  refine g10 ?_
  refine vl _ rfl (dcF (r_neq rfl rfl) (by simp [hc.2.1])) ?_
  refine g7 ?_
  refine vl _ rfl (lenB (r_len rfl (Q1 _ (lT le0 S3.le)) U26)) (vl _ rfl (dcT (r_neq rfl rfl) (by have := hc.2.2; simp; omega)) ?_)
  refine g6 ?_
  refine vl _ rfl (gB recR0 st_196 rfl fill_end) ?_
  refine yW1 S3 ?_
  intro w6 S6
  refine g6 ?_
  refine f2c Tryz.results98 ?_
  rw [show sealRL L s k r e = L from if_neg (by rw [hE]; decide)]
  have q2 : (sealRR L s k r e) = (⟨0, 0, 0, 0, []⟩ : Record) := by rw [sealRR, if_neg (by rw [hE]; decide)]; rfl
  exact ⟨recR0, I0, le0, (by rw [hE]), (by rw [q2]; exact (recRz _)), S6.dr0.dr0.dr0.dr0⟩
  have hn0 : r.nums = false := by simpa using hc.2.2.2
  have hE : sealRE k r e = 12 := by rw [sealRE, if_neg (by rw [encE_right hc.1]; decide), if_neg (fun h => h hc.2.1), if_neg (fun h => h hc.2.2.1), if_pos hn0]
  refine g2 ?_
  refine vl _ rfl (dcF (r_neq rfl rfl) (by rw [encE_right hc.1]; rfl)) ?_
  refine g10 ?_
  refine vl _ rfl (dcF (r_neq rfl rfl) (by simp [hc.2.1])) ?_
  refine g7 ?_
  refine vl _ rfl (lenB (r_len rfl (Q1 _ (lT le0 S3.le)) U26)) (vl _ rfl (dcF (r_neq rfl rfl) (by have := hc.2.2.1; simp; omega)) ?_)
  refine g7 ?_
  refine yR (nums_c (recRC r v2) r _ _ _ S3 ⟨v2, rfl, ad, ad, ad, ad, ⟨o0, (H0.up le0)⟩⟩) ?_
  rintro _ w7 ⟨rfl, S7⟩
  refine vl _ rfl (nT rfl hn0) ?_
  refine g6 ?_
  refine vl _ rfl (gB recR0 st_196 rfl fill_end) ?_
  refine yW1 S7 ?_
  intro w8 S8
  refine g6 ?_
  refine f2c Tryz.results98 ?_
  rw [show sealRL L s k r e = L from if_neg (by rw [hE]; decide)]
  have q3 : (sealRR L s k r e) = (⟨0, 0, 0, 0, []⟩ : Record) := by rw [sealRR, if_neg (by rw [hE]; decide)]; rfl
  exact ⟨recR0, I0, le0, (by rw [hE]), (by rw [q3]; exact (recRz _)), S8.dr0.dr0.dr0.dr0⟩
  have hE : sealRE k r e = bsizeE ((tryB e).length : Int) := by rw [sealRE, if_neg (by rw [encE_right hc.1]; decide), if_neg (fun h => h hc.2.1), if_neg (fun h => h hc.2.2.1), if_neg (by rw [hc.2.2.2]; decide)]
  have hnu := nums_iff.1 hc.2.2.2
  have htl := putB_le [Any.bytes e.encB, Any.bytes (List.replicate 32 0)]
  refine g2 ?_
  refine vl _ rfl (dcF (r_neq rfl rfl) (by rw [encE_right hc.1]; rfl)) ?_
  refine g10 ?_
  refine vl _ rfl (dcF (r_neq rfl rfl) (by simp [hc.2.1])) ?_
  refine g7 ?_
  refine vl _ rfl (lenB (r_len rfl (Q1 _ (lT le0 S3.le)) U26)) (vl _ rfl (dcF (r_neq rfl rfl) (by have := hc.2.2.1; simp; omega)) ?_)
  refine g7 ?_
  refine yR (nums_c (recRC r v2) r _ _ _ S3 ⟨v2, rfl, ad, ad, ad, ad, ⟨o0, (H0.up le0)⟩⟩) ?_
  rintro _ w9 ⟨rfl, S9⟩
  refine vl _ rfl (nF rfl hc.2.2.2) ?_
  refine g10 ?_
  refine vl _ rfl (r_iface rfl U26 rfl) ?_
  refine EL_make w9.heap.size elB rfl rfl rfl rfl (by omega) (by omega) (by omega) (by omega) (Nat.le_refl _) ?_
  intro v7 w10 O0 B0 k0 z0
  have S10 : Sat _ _ (OwnB v7 (List.replicate 32 (0 : UInt8)) :: _) := S9.newO B0 (own_rep O0)
  refine vl _ rfl (r_iface rfl U26 rfl) ?_
  obtain ⟨I1, le1, S11, H4⟩ := S10.fb1
  obtain ⟨I2, le2, S12, H5⟩ := S11.fb0
  refine EL_lit1 (l := [(0, .iface 26 v6), (1, .iface 26 v7)]) w10.heap.size [.iface 26 v6, .iface 26 v7] el_146 rfl (by decide) rfl (Nat.le_refl _) (parts2 rfl rfl) (Eq.trans (show Instr.fill _ _ [(0, .iface 26 v6), (1, .iface 26 v7)] = _ from (fill_one rfl rfl (by kernel_rfl) (fill_one rfl rfl (by kernel_rfl) fill_end))) (by kernel_rfl)) ?_
  intro v8 w11 O1 B1 k1
  have S13 : Sat _ _ (OwnX 20 anyR v8 [(Any.bytes e.encB), (Any.bytes (List.replicate 32 (0 : UInt8)))] :: _) := OwnX.cls (xss := [[.iface 26 v6], [.iface 26 v7]]) (.cons ⟨_, rfl, (row_one (H4 _ (lT le2 S12.le))), (H4.up le2)⟩ (.cons ⟨_, rfl, (row_one (H5 _ S12.le)), H5⟩ .nil)) (S12.newO B1 O1)
  have oH127 := (OwnX.one S13 0 rfl (by decide))
  obtain ⟨I3, le3, S14, H6⟩ := S13.fx0 (by decide)
  refine yR (Put_c _ _ _ _ _ S14 H6 (by simp)) ?_
  rintro _ w12 ⟨v9, rfl, S15⟩
  have q4 : putB [(Any.bytes e.encB), (Any.bytes (List.replicate 32 (0 : UInt8)))] = tryB e := rfl
  have S16 := S15.ab0 q4
  have htl2 : (tryB e).length ≤ 8196 := htl
  refine g11 ?_
  refine vl _ rfl (lenB (r_len rfl (own_row (S16.own 0 rfl)) U26)) ?_
  refine yR (Size_c ((tryB e).length : Int) _ _ _ S16 (by omega)) ?_
  rintro _ w13 ⟨rfl, S17⟩
  refine g7 ?_
  rcases Decidable.em (bsizeE ((tryB e).length : Int) = 0) with hz0 | hz0
  refine g2 ?_
  refine vl _ rfl (dcF (r_neq rfl rfl) (by simp [hz0])) ?_
  refine g8 ?_
  refine vl _ rfl (r_iface rfl U26 rfl) ?_
  refine g7 ?_
  refine yR (mark_c _ _ _ _ r.coll r.writer _ _ _ _ _ S17.fr4 (Q0.up (lT (lT (lT le0 le1) le2) le3)) (H4.up (lT le2 le3)) (by omega) au au) ?_
  rintro _ w14 ⟨v10, I4, le4, rfl, S18⟩
  refine vl _ rfl (r_iface rfl U26 rfl) ?_
  obtain ⟨I5, le5, S19, H7⟩ := S18.fb0
  refine EL_lit1 (l := [(0, .iface 26 v6), (1, .iface 26 v10)]) w14.heap.size [.iface 26 v6, .iface 26 v10] el_146 rfl (by decide) rfl (Nat.le_refl _) (parts2 rfl rfl) (Eq.trans (show Instr.fill _ _ [(0, .iface 26 v6), (1, .iface 26 v10)] = _ from (fill_one rfl rfl (by kernel_rfl) (fill_one rfl rfl (by kernel_rfl) fill_end))) (by kernel_rfl)) ?_
  intro v11 w15 O2 B2 k2
  have S20 : Sat _ _ (OwnX 20 anyR v11 [(Any.bytes e.encB), (Any.bytes (markB L s r.coll r.writer e.encB))] :: _) := OwnX.cls (xss := [[.iface 26 v6], [.iface 26 v10]]) (.cons ⟨_, rfl, (row_one (H4 _ (lT (lT (lT (lT le2 le3) le4) le5) S19.le))), (H4.up (lT (lT (lT le2 le3) le4) le5))⟩ (.cons ⟨_, rfl, (row_one (H7 _ S19.le)), H7⟩ .nil)) (S19.newO B2 O2)
  have oH154 := (OwnX.one S20 0 rfl (by decide))
  obtain ⟨I6, le6, S21, H8⟩ := S20.fx0 (by decide)
  refine yR (Put_c _ _ _ _ _ S21 H8 (by simp)) ?_
  rintro _ w16 ⟨v12, rfl, S22⟩
  have q5 : putB [(Any.bytes e.encB), (Any.bytes (markB L s r.coll r.writer e.encB))] = plainB L s r e := rfl
  have S23 := S22.ab0 q5
  have hpl := putB_le [Any.bytes e.encB, Any.bytes (markB L s r.coll r.writer e.encB)]
  refine g9 ?_
  obtain ⟨I7, le7, S24, H9⟩ := S23.fb0
  refine yR (Pad_c _ _ _ _ _ S24 H9) ?_
  rintro _ w17 ⟨v13, rfl, S25⟩
  refine g13 ?_
  refine yR (Nonce_c r.writer r.count _ _ _ S25) ?_
  rintro _ w18 ⟨v14, I8, le8, rfl, S26⟩
  refine g13 ?_
  refine yR (front_c (recRC r v2) r _ _ _ S26 ⟨v2, rfl, ad, ad, ad, ad, ⟨o0, (H0.up (lT (lT (lT (lT (lT (lT (lT (lT le0 le1) le2) le3) le4) le5) le6) le7) le8))⟩⟩) ?_
  rintro _ w19 ⟨v15, I9, le9, rfl, S27⟩
  refine g1 ?_
  obtain ⟨I10, le10, S28, H10⟩ := S27.fb1
  obtain ⟨I11, le11, S29, H11⟩ := S28.fb0
  obtain ⟨I12, le12, S30, H12⟩ := S29.fb0
  refine yR (SealOk_c _ _ _ _ _ _ _ _ _ _ _ _ _ S30 (Q1.up (lT (lT (lT (lT (lT (lT (lT (lT (lT (lT (lT (lT le0 le1) le2) le3) le4) le5) le6) le7) le8) le9) le10) le11) le12)) (H10.up (lT le11 le12)) (H11.up le12) H12 (Nat.le_trans (markL_len _ _ _ _ _) (by omega)) (by omega) (by rw [nonceB, if_pos (nonceOk_iff.2 (by omega))]; simp [be6]) (by have := putB_le r.numParts; simp [Record.numParts] at this; simp [Record.front, Record.numParts]; omega) (Nat.le_trans (padB_len _) (by decide)) (szOk_iff.2 ⟨hc.2.2.1, by rw [nonceB, if_pos (nonceOk_iff.2 (by omega))]; rfl⟩)) ?_
  rintro _ w20 ⟨v16, rfl, S31⟩
  refine g4 ?_
  refine yS5 S31 ?_ (hu := own_one (S31.own 0 rfl))
  intro w21 S32
  refine g7 ?_
  refine yW3 S32 ?_ (h1 := ones_cons rfl (ones_cons rfl (ones_cons rfl (ones_cons rfl (ones_cons (own_one (S32.own 0 rfl)) ones_nil)))))
  intro w22 S33
  refine g4 ?_
  refine f2c Tryz.results98 ?_
  have hE2 : sealRE k r e = 0 := hE.trans hz0
  have q6 : (markL L s r.coll r.writer e.encB) ++ [tBox k (nonceB r.writer r.count) r.front (padB (plainB L s r e))] = sealRL L s k r e := by rw [sealRL, if_pos hE2]; rfl
  have S34 := Sat.ah1 (Suite p) S33 q6
  obtain ⟨I13, le13, S35, H13⟩ := S34.fb0
  have q7 : (sealRR L s k r e) = (⟨r.coll, r.epoch, r.writer, r.count, boxOf (((markL L s r.coll r.writer e.encB).length : Int) + 1) (padB (plainB L s r e)).length⟩ : Record) := by rw [sealRR, if_pos hE2]
  have S36 := S35.dr1.dr1.dr1.dr1
  exact ⟨(recRC r v16), I13, (lT (lT (lT (lT (lT (lT (lT (lT (lT (lT (lT (lT (lT le0 le1) le2) le3) le4) le5) le6) le7) le8) le9) le10) le11) le12) le13), (by rw [hE2]), (by rw [q7]; exact ⟨v16, rfl, ad, ad, ad, ad, ⟨(row_one (H13 _ S36.le)), H13⟩⟩), S36⟩
  refine g2 ?_
  refine vl _ rfl (dcT (r_neq rfl rfl) (by simp [hz0])) ?_
  refine g5 ?_
  refine vl _ rfl (gB recR0 st_196 rfl fill_end) ?_
  refine g1 ?_
  refine yW1 S17 ?_
  intro w23 S37
  refine g5 ?_
  refine f2c Tryz.results98 ?_
  rw [show sealRL L s k r e = L from if_neg (by rw [hE]; exact hz0)]
  have q8 : (sealRR L s k r e) = (⟨0, 0, 0, 0, []⟩ : Record) := by rw [sealRR, if_neg (by rw [hE]; exact hz0)]; rfl
  exact ⟨recR0, I3, (lT (lT (lT le0 le1) le2) le3), (by rw [hE]), (by rw [q8]; exact (recRz _)), S37.dr0.dr0.dr0.dr0⟩

end Go.Proofs.YtanpinfhlbbjkaaGreat
