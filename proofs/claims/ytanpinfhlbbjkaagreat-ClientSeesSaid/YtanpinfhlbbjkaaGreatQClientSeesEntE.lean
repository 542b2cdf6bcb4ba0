import Derived.Test.YtanpinfhlbbjkaaGreatQClientSeesEntD
set_option linter.unusedVariables false
set_option linter.unusedSimpArgs false
set_option maxRecDepth 100000
set_option maxHeartbeats 4000000
namespace Go.Proofs.YtanpinfhlbbjkaaGreat
open Go.RowKit Go.Ecal

theorem Right_c (ce : List Value) (e : Entry) (I : Gh) (R : List HP) (w : World) (S : Sat w I (R)) (he : entR.r I ce e) : Ret Tryz.prog 95 [.agg ce.toArray] w fun v w' => ∃ J : Gh, Gh.le I J ∧ .bool e.right = v ∧ Sat w' J (R) := by
  obtain ⟨v0, v1, v2, rfl, r0, r1, r2, ⟨o0, H0⟩, ⟨o1, H1⟩, r3, r4, r5, ⟨o2, H2⟩⟩ := he
  refine ret_E Tryz.func95 rfl Tryz.ntmps95 (by simp) ?_
  refine g2 ?_
  refine yB (cs := entRC e v0 v1 v2) S ?_
  intro b0 w0 S0
  refine g5 ?_
  rcases first4 (within e.kind 1 5 = true) (within e.writer 1 16 = true) (within e.seq 1 1099511627776 = true) (e = e.bare) with hc | hc | hc | hc | hc
  refine yJ 2 (fun w' => Arr w' b0 29 (entRC e v0 v1 v2)) S0 ?_
  intro w1 S1
  refine yT 0 S1.le (S1.a0) ?_
  refine yT 1 S1.le (S1.a0) ?_
  refine y1 2 ?_
  refine yQ S1 (within_c e.kind 1 5 _) ?_
  intro w2 S2
  refine ym S2.le ?_
  refine jF 3 rfl (by kernel_rfl) (.bool true) rfl (fun _ hw => r_dec (show (!false) = true from rfl) (r_not (Eq.trans (show _ = Value.bool (within e.kind 1 5) from rfl) (congrArg Value.bool (show (within e.kind 1 5) = false from by simpa using hc))))) ⟨S2.le, fun h => by cases h⟩ ?_
  refine yf 4 S2.le ?_
  refine yp 5 (ys S2.le) ?_
  refine yp 6 (ys S2.le) ?_
  refine yp 7 (ys S2.le) ?_
  refine yp 8 (ys S2.le) ?_
  refine yf 9 S2.le ?_
  refine yf 10 S2.le ?_
  refine yp 11 (ys S2.le) ?_
  refine yp 12 (ys S2.le) ?_
  refine yp 13 (ys S2.le) ?_
  refine yp 14 (ys S2.le) ?_
  refine yf 15 S2.le ?_
  refine yf 16 S2.le ?_
  obtain ⟨I0, le0, S3, H3⟩ := S2.fk0
  refine yu le0 ?_
  refine yp 17 (ys S3.le) ?_
  refine yp 18 (ys S3.le) ?_
  refine yp 19 (ys S3.le) ?_
  refine yp 20 (ys S3.le) ?_
  refine yp 21 (ys S3.le) ?_
  refine yf 22 S3.le ?_
  refine yd ?_
  refine g9 ?_
  refine f1 Tryz.results95 ?_
  exact ⟨I0, le0, (congrArg Value.bool (by rw [Entry.right, Entry.head]; have hc0 := hc; simp [hc0])), S3⟩
  refine yJ 7 (fun w' => Arr w' b0 29 (entRC e v0 v1 v2)) S0 ?_
  intro w3 S4
  refine yT 0 S4.le (S4.a0) ?_
  refine yT 1 S4.le (S4.a0) ?_
  refine y1 2 ?_
  refine yQ S4 (within_c e.kind 1 5 _) ?_
  intro w4 S5
  refine yn S5.le (S5.a0) ?_
  refine jT 3 rfl (by kernel_rfl) (.bool false) rfl (fun _ hw ht => r_dec (show (!true) = false from rfl) (r_not (Eq.trans (show _ = Value.bool (within e.kind 1 5) from rfl) (congrArg Value.bool (show (within e.kind 1 5) = true from hc.1))))) ⟨S5.le, fun h => S5.a0⟩ ?_
  refine yT 4 S5.le (S5.a0) ?_
  refine yg 5 (yt S5.le (S5.a0)) ?_
  refine yg 6 (yt S5.le (S5.a0)) ?_
  refine y1 7 ?_
  refine yG (within_c e.writer 1 16 _) ?_
  rintro _ w5 ⟨rfl, B0⟩
  have S6 := S5.below B0
  refine ym S6.le ?_
  refine EJ_gfloat 8 rfl (by kernel_rfl) (by kernel_rfl) (by kernel_rfl) rfl 7 rfl rfl rfl rfl (.bool true) rfl (fun _ hw => r_dec (show (!false) = true from rfl) (r_not (Eq.trans (show _ = Value.bool (within e.writer 1 16) from rfl) (congrArg Value.bool (show (within e.writer 1 16) = false from by simpa using hc.2))))) ⟨S6.le, fun h => by cases h⟩ ?_
  refine yf 9 S6.le ?_
  refine yf 10 S6.le ?_
  refine yp 11 (ys S6.le) ?_
  refine yp 12 (ys S6.le) ?_
  refine yp 13 (ys S6.le) ?_
  refine yp 14 (ys S6.le) ?_
  refine yf 15 S6.le ?_
  refine yf 16 S6.le ?_
  obtain ⟨I1, le1, S7, H4⟩ := S6.fk0
  refine yu le1 ?_
  refine yp 17 (ys S7.le) ?_
  refine yp 18 (ys S7.le) ?_
  refine yp 19 (ys S7.le) ?_
  refine yp 20 (ys S7.le) ?_
  refine yp 21 (ys S7.le) ?_
  refine yf 22 S7.le ?_
  refine yd ?_
  refine g9 ?_
  refine f1 Tryz.results95 ?_
  exact ⟨I1, le1, (congrArg Value.bool (by rw [Entry.right, Entry.head]; have hc0 := hc.2; simp [hc0])), S7⟩
  refine yJ 13 (fun w' => Arr w' b0 29 (entRC e v0 v1 v2)) S0 ?_
  intro w6 S8
  refine yT 0 S8.le (S8.a0) ?_
  refine yT 1 S8.le (S8.a0) ?_
  refine y1 2 ?_
  refine yQ S8 (within_c e.kind 1 5 _) ?_
  intro w7 S9
  refine yn S9.le (S9.a0) ?_
  refine jT 3 rfl (by kernel_rfl) (.bool false) rfl (fun _ hw ht => r_dec (show (!true) = false from rfl) (r_not (Eq.trans (show _ = Value.bool (within e.kind 1 5) from rfl) (congrArg Value.bool (show (within e.kind 1 5) = true from hc.1))))) ⟨S9.le, fun h => S9.a0⟩ ?_
  refine yT 4 S9.le (S9.a0) ?_
  refine yg 5 (yt S9.le (S9.a0)) ?_
  refine yg 6 (yt S9.le (S9.a0)) ?_
  refine y1 7 ?_
  refine yG (within_c e.writer 1 16 _) ?_
  rintro _ w8 ⟨rfl, B1⟩
  have S10 := S9.below B1
  refine yn S10.le (S10.a0) ?_
  refine jG 8 rfl (by kernel_rfl) 7 rfl rfl rfl rfl (.bool false) rfl (fun _ hw ht => r_dec (show (!true) = false from rfl) (r_not (Eq.trans (show _ = Value.bool (within e.writer 1 16) from rfl) (congrArg Value.bool (show (within e.writer 1 16) = true from hc.2.1))))) ⟨S10.le, fun h => S10.a0⟩ ?_
  refine yT 9 S10.le (S10.a0) ?_
  refine yT 10 S10.le (S10.a0) ?_
  refine yg 11 (yt S10.le (S10.a0)) ?_
  refine yg 12 (yt S10.le (S10.a0)) ?_
  refine y1 13 ?_
  refine yG (within_c e.seq 1 1099511627776 _) ?_
  rintro _ w9 ⟨rfl, B2⟩
  have S11 := S10.below B2
  refine ym S11.le ?_
  refine EJ_gfloat 14 rfl (by kernel_rfl) (by kernel_rfl) (by kernel_rfl) rfl 13 rfl rfl rfl rfl (.bool true) rfl (fun _ hw => r_dec (show (!false) = true from rfl) (r_not (Eq.trans (show _ = Value.bool (within e.seq 1 1099511627776) from rfl) (congrArg Value.bool (show (within e.seq 1 1099511627776) = false from by simpa using hc.2.2))))) ⟨S11.le, fun h => by cases h⟩ ?_
  refine yf 15 S11.le ?_
  refine yf 16 S11.le ?_
  obtain ⟨I2, le2, S12, H5⟩ := S11.fk0
  refine yu le2 ?_
  refine yp 17 (ys S12.le) ?_
  refine yp 18 (ys S12.le) ?_
  refine yp 19 (ys S12.le) ?_
  refine yp 20 (ys S12.le) ?_
  refine yp 21 (ys S12.le) ?_
  refine yf 22 S12.le ?_
  refine yd ?_
  refine g9 ?_
  refine f1 Tryz.results95 ?_
  exact ⟨I2, le2, (congrArg Value.bool (by rw [Entry.right, Entry.head]; have hc0 := hc.2.2; simp [hc0])), S12⟩
  refine yJ 20 (fun w' => Arr w' b0 29 (entRC e v0 v1 v2)) S0 ?_
  intro w10 S13
  refine yT 0 S13.le (S13.a0) ?_
  refine yT 1 S13.le (S13.a0) ?_
  refine y1 2 ?_
  refine yQ S13 (within_c e.kind 1 5 _) ?_
  intro w11 S14
  refine yn S14.le (S14.a0) ?_
  refine jT 3 rfl (by kernel_rfl) (.bool false) rfl (fun _ hw ht => r_dec (show (!true) = false from rfl) (r_not (Eq.trans (show _ = Value.bool (within e.kind 1 5) from rfl) (congrArg Value.bool (show (within e.kind 1 5) = true from hc.1))))) ⟨S14.le, fun h => S14.a0⟩ ?_
  refine yT 4 S14.le (S14.a0) ?_
  refine yg 5 (yt S14.le (S14.a0)) ?_
  refine yg 6 (yt S14.le (S14.a0)) ?_
  refine y1 7 ?_
  refine yG (within_c e.writer 1 16 _) ?_
  rintro _ w12 ⟨rfl, B3⟩
  have S15 := S14.below B3
  refine yn S15.le (S15.a0) ?_
  refine jG 8 rfl (by kernel_rfl) 7 rfl rfl rfl rfl (.bool false) rfl (fun _ hw ht => r_dec (show (!true) = false from rfl) (r_not (Eq.trans (show _ = Value.bool (within e.writer 1 16) from rfl) (congrArg Value.bool (show (within e.writer 1 16) = true from hc.2.1))))) ⟨S15.le, fun h => S15.a0⟩ ?_
  refine yT 9 S15.le (S15.a0) ?_
  refine yT 10 S15.le (S15.a0) ?_
  refine yg 11 (yt S15.le (S15.a0)) ?_
  refine yg 12 (yt S15.le (S15.a0)) ?_
  refine y1 13 ?_
  refine yG (within_c e.seq 1 1099511627776 _) ?_
  rintro _ w13 ⟨rfl, B4⟩
  have S16 := S15.below B4
  refine yn S16.le (S16.a0) ?_
  refine jG 14 rfl (by kernel_rfl) 13 rfl rfl rfl rfl (.bool false) rfl (fun _ hw ht => r_dec (show (!true) = false from rfl) (r_not (Eq.trans (show _ = Value.bool (within e.seq 1 1099511627776) from rfl) (congrArg Value.bool (show (within e.seq 1 1099511627776) = true from hc.2.2.1))))) ⟨S16.le, fun h => S16.a0⟩ ?_
  refine yT 15 S16.le (S16.a0) ?_
  refine yT 16 S16.le (S16.a0) ?_
  refine yg 17 (yt S16.le (S16.a0)) ?_
  refine yg 18 (yt S16.le (S16.a0)) ?_
  refine y1 19 ?_
  refine yG (bare_c (entRC e v0 v1 v2) e _ _ _ S16 ⟨v0, v1, v2, rfl, ad, ad, ad, ⟨o0, H0⟩, ⟨o1, H1⟩, ad, ad, ad, ⟨o2, H2⟩⟩) ?_
  rintro _ w14 ⟨cs0, rfl, h0, S17⟩
  obtain ⟨v3, v4, v5, rfl, r6, r7, r8, ⟨o3, H6⟩, ⟨o4, H7⟩, r9, r10, r11, ⟨o5, H8⟩⟩ := h0
  refine yn S17.le (S17.a0) ?_
  refine y1 20 ?_
  refine yG (Same_c (entRC e v0 v1 v2) (entRC e.bare v3 v4 v5) e e.bare _ _ _ S17 ⟨v0, v1, v2, rfl, ad, ad, ad, ⟨o0, H0⟩, ⟨o1, H1⟩, ad, ad, ad, ⟨o2, H2⟩⟩ ⟨v3, v4, v5, rfl, ad, ad, ad, ⟨o3, H6⟩, ⟨o4, H7⟩, ad, ad, ad, ⟨o5, H8⟩⟩) ?_
  rintro _ w15 ⟨rfl, S18⟩
  refine ym S18.le ?_
  refine EJ_gfloat 21 rfl (by kernel_rfl) (by kernel_rfl) (by kernel_rfl) rfl 19 rfl rfl rfl rfl (.bool true) rfl (fun _ hw => r_dec (show (!false) = true from rfl) (r_not (Eq.trans (show _ = Value.bool (decide (e = e.bare)) from rfl) (congrArg Value.bool (show (decide (e = e.bare)) = false from by rw [decide_eq_false_iff_not]; exact hc.2.2.2))))) ⟨S18.le, fun h => by cases h⟩ ?_
  refine yf 22 S18.le ?_
  refine yd ?_
  refine g9 ?_
  refine f1 Tryz.results95 ?_
  exact ⟨I, (Gh.le_refl _), (congrArg Value.bool (by rw [Entry.right, Entry.head]; have hc0 := hc.2.2.2; simp [hc0])), S18.dr0⟩
  refine yJ 20 (fun w' => Arr w' b0 29 (entRC e v0 v1 v2)) S0 ?_
  intro w16 S19
  refine yT 0 S19.le (S19.a0) ?_
  refine yT 1 S19.le (S19.a0) ?_
  refine y1 2 ?_
  refine yQ S19 (within_c e.kind 1 5 _) ?_
  intro w17 S20
  refine yn S20.le (S20.a0) ?_
  refine jT 3 rfl (by kernel_rfl) (.bool false) rfl (fun _ hw ht => r_dec (show (!true) = false from rfl) (r_not (Eq.trans (show _ = Value.bool (within e.kind 1 5) from rfl) (congrArg Value.bool (show (within e.kind 1 5) = true from hc.1))))) ⟨S20.le, fun h => S20.a0⟩ ?_
  refine yT 4 S20.le (S20.a0) ?_
  refine yg 5 (yt S20.le (S20.a0)) ?_
  refine yg 6 (yt S20.le (S20.a0)) ?_
  refine y1 7 ?_
  refine yG (within_c e.writer 1 16 _) ?_
  rintro _ w18 ⟨rfl, B5⟩
  have S21 := S20.below B5
  refine yn S21.le (S21.a0) ?_
  refine jG 8 rfl (by kernel_rfl) 7 rfl rfl rfl rfl (.bool false) rfl (fun _ hw ht => r_dec (show (!true) = false from rfl) (r_not (Eq.trans (show _ = Value.bool (within e.writer 1 16) from rfl) (congrArg Value.bool (show (within e.writer 1 16) = true from hc.2.1))))) ⟨S21.le, fun h => S21.a0⟩ ?_
  refine yT 9 S21.le (S21.a0) ?_
  refine yT 10 S21.le (S21.a0) ?_
  refine yg 11 (yt S21.le (S21.a0)) ?_
  refine yg 12 (yt S21.le (S21.a0)) ?_
  refine y1 13 ?_
  refine yG (within_c e.seq 1 1099511627776 _) ?_
  rintro _ w19 ⟨rfl, B6⟩
  have S22 := S21.below B6
  refine yn S22.le (S22.a0) ?_
  refine jG 14 rfl (by kernel_rfl) 13 rfl rfl rfl rfl (.bool false) rfl (fun _ hw ht => r_dec (show (!true) = false from rfl) (r_not (Eq.trans (show _ = Value.bool (within e.seq 1 1099511627776) from rfl) (congrArg Value.bool (show (within e.seq 1 1099511627776) = true from hc.2.2.1))))) ⟨S22.le, fun h => S22.a0⟩ ?_
  refine yT 15 S22.le (S22.a0) ?_
  refine yT 16 S22.le (S22.a0) ?_
  refine yg 17 (yt S22.le (S22.a0)) ?_
  refine yg 18 (yt S22.le (S22.a0)) ?_
  refine y1 19 ?_
  refine yG (bare_c (entRC e v0 v1 v2) e _ _ _ S22 ⟨v0, v1, v2, rfl, ad, ad, ad, ⟨o0, H0⟩, ⟨o1, H1⟩, ad, ad, ad, ⟨o2, H2⟩⟩) ?_
  rintro _ w20 ⟨cs1, rfl, h1, S23⟩
  obtain ⟨v6, v7, v8, rfl, r12, r13, r14, ⟨o6, H9⟩, ⟨o7, H10⟩, r15, r16, r17, ⟨o8, H11⟩⟩ := h1
  refine yn S23.le (S23.a0) ?_
  refine y1 20 ?_
  refine yG (Same_c (entRC e v0 v1 v2) (entRC e.bare v6 v7 v8) e e.bare _ _ _ S23 ⟨v0, v1, v2, rfl, ad, ad, ad, ⟨o0, H0⟩, ⟨o1, H1⟩, ad, ad, ad, ⟨o2, H2⟩⟩ ⟨v6, v7, v8, rfl, ad, ad, ad, ⟨o6, H9⟩, ⟨o7, H10⟩, ad, ad, ad, ⟨o8, H11⟩⟩) ?_
  rintro _ w21 ⟨rfl, S24⟩
  refine ym S24.le ?_
  refine EJ_gfloat 21 rfl (by kernel_rfl) (by kernel_rfl) (by kernel_rfl) rfl 19 rfl rfl rfl rfl (.bool false) rfl (fun _ hw => r_dec (show (!true) = false from rfl) (r_not (Eq.trans (show _ = Value.bool (decide (e = e.bare)) from rfl) (congrArg Value.bool (show (decide (e = e.bare)) = true from by rw [decide_eq_true_eq]; exact hc.2.2.2))))) ⟨S24.le, fun h => by cases h⟩ ?_
  refine yf 22 S24.le ?_
  refine yd ?_
  refine g6 ?_
  rcases (by have := within_iff.1 hc.1; omega : e.kind = 1 ∨ e.kind = 2 ∨ e.kind = 3 ∨ e.kind = 4 ∨ e.kind = 5) with hk | hk | hk | hk | hk
  refine g9 ?_
  refine vl _ rfl (dT (r_eql rfl rfl)) ?_
  refine g11 ?_
  refine vl _ rfl (lenB (r_len rfl (H0 _ S24.le) U26)) ?_
  refine yQ S24 (within_c (e.name.length : Int) 1 64 _) ?_
  intro w22 S25
  refine g3 ?_
  refine EL_gite 35 rfl rfl rfl (.int .i64 (e.value.length : Int)) rfl (fun g144 => lenB (r_len (cond_of g144 rfl) (H1 _ S25.le) U26)) ?_
  refine g8 ?_
  refine f1 Tryz.results95 ?_
  exact ⟨I, (Gh.le_refl _), (congrArg Value.bool (by rw [Entry.right, Entry.head, hc.1, hc.2.1, hc.2.2.1, decide_eq_true hc.2.2.2, Entry.body, if_pos (.inl hk)] <;> rfl)), S25.dr0⟩
  refine g9 ?_
  refine vl _ rfl (dF (r_eql rfl rfl)) ?_
  refine g5 ?_
  refine vl _ rfl (dT (r_eql rfl rfl)) ?_
  refine g8 ?_
  refine vl _ rfl (lenB (r_len rfl (H0 _ S24.le) U26)) ?_
  refine yQ S24 (within_c (e.name.length : Int) 1 64 _) ?_
  intro w23 S26
  refine g3 ?_
  refine EL_gite 35 rfl rfl rfl (.int .i64 (e.value.length : Int)) rfl (fun g152 => lenB (r_len (cond_of g152 rfl) (H1 _ S26.le) U26)) ?_
  refine g8 ?_
  refine f1 Tryz.results95 ?_
  exact ⟨I, (Gh.le_refl _), (congrArg Value.bool (by rw [Entry.right, Entry.head, hc.1, hc.2.1, hc.2.2.1, decide_eq_true hc.2.2.2, Entry.body, if_pos (.inr hk)] <;> rfl)), S26.dr0⟩
  refine g9 ?_
  refine vl _ rfl (dF (r_eql rfl rfl)) ?_
  refine g5 ?_
  refine vl _ rfl (dF (r_eql rfl rfl)) ?_
  refine g6 ?_
  refine vl _ rfl (dT (r_eql rfl rfl)) ?_
  refine g5 ?_
  rcases (by cases within e.who 1 16 <;> simp : within e.who 1 16 = true ∨ within e.who 1 16 = false) with hd | hd
  refine g3 ?_
  refine yQ S24 (within_c e.who 1 16 _) ?_
  intro w24 S27
  refine vl (.bool true) rfl (r_move (Eq.trans (show _ = Value.bool (within e.who 1 16) from rfl) (congrArg Value.bool (show (within e.who 1 16) = true from hd)))) ?_
  refine g2 ?_
  refine yG (within_c e.rights 1 7 _) ?_
  rintro _ w25 ⟨rfl, B7⟩
  have S28 := S27.below B7
  refine g7 ?_
  refine f1 Tryz.results95 ?_
  exact ⟨I, (Gh.le_refl _), (congrArg Value.bool (by rw [Entry.right, Entry.head, hc.1, hc.2.1, hc.2.2.1, decide_eq_true hc.2.2.2, Entry.body, if_neg (by omega), if_pos hk, hd] <;> rfl)), S28.dr0⟩
  refine g3 ?_
  refine yQ S24 (within_c e.who 1 16 _) ?_
  intro w26 S29
  refine vl (.bool false) rfl (r_move (Eq.trans (show _ = Value.bool (within e.who 1 16) from rfl) (congrArg Value.bool (show (within e.who 1 16) = false from hd)))) ?_
  refine g10 ?_
  refine f1 Tryz.results95 ?_
  exact ⟨I, (Gh.le_refl _), (congrArg Value.bool (by rw [Entry.right, Entry.head, hc.1, hc.2.1, hc.2.2.1, decide_eq_true hc.2.2.2, Entry.body, if_neg (by omega), if_pos hk, hd] <;> rfl)), S29.dr0⟩
  refine g9 ?_
  refine vl _ rfl (dF (r_eql rfl rfl)) ?_
  refine g5 ?_
  refine vl _ rfl (dF (r_eql rfl rfl)) ?_
  refine g6 ?_
  refine vl _ rfl (dF (r_eql rfl rfl)) ?_
  refine g6 ?_
  refine vl _ rfl (dT (r_eql rfl rfl)) ?_
  refine g8 ?_
  refine yQ S24 (within_c e.who 1 16 _) ?_
  intro w27 S30
  refine g6 ?_
  refine f1 Tryz.results95 ?_
  exact ⟨I, (Gh.le_refl _), (congrArg Value.bool (by rw [Entry.right, Entry.head, hc.1, hc.2.1, hc.2.2.1, decide_eq_true hc.2.2.2, Entry.body, if_neg (by omega), if_neg (by omega), if_pos hk] <;> rfl)), S30.dr0⟩
  refine g9 ?_
  refine vl _ rfl (dF (r_eql rfl rfl)) ?_
  refine g5 ?_
  refine vl _ rfl (dF (r_eql rfl rfl)) ?_
  refine g6 ?_
  refine vl _ rfl (dF (r_eql rfl rfl)) ?_
  refine g6 ?_
  refine vl _ rfl (dF (r_eql rfl rfl)) ?_
  refine g8 ?_
  rcases (by cases within e.epoch 1 16 <;> simp : within e.epoch 1 16 = true ∨ within e.epoch 1 16 = false) with hd | hd
  refine g3 ?_
  refine yQ S24 (within_c e.epoch 1 16 _) ?_
  intro w28 S31
  refine vl (.bool true) rfl (r_move (Eq.trans (show _ = Value.bool (within e.epoch 1 16) from rfl) (congrArg Value.bool (show (within e.epoch 1 16) = true from hd)))) ?_
  refine g2 ?_
  refine yG (wraps_c _ _ _ _ _ S31 H2) ?_
  rintro _ w29 ⟨rfl, S32⟩
  refine g5 ?_
  refine f1 Tryz.results95 ?_
  exact ⟨I, (Gh.le_refl _), (congrArg Value.bool (by rw [Entry.right, Entry.head, hc.1, hc.2.1, hc.2.2.1, decide_eq_true hc.2.2.2, Entry.body, if_neg (by omega), if_neg (by omega), if_neg (by omega), hd] <;> rfl)), S32.dr0⟩
  refine g3 ?_
  refine yQ S24 (within_c e.epoch 1 16 _) ?_
  intro w30 S33
  refine vl (.bool false) rfl (r_move (Eq.trans (show _ = Value.bool (within e.epoch 1 16) from rfl) (congrArg Value.bool (show (within e.epoch 1 16) = false from hd)))) ?_
  refine g8 ?_
  refine f1 Tryz.results95 ?_
  exact ⟨I, (Gh.le_refl _), (congrArg Value.bool (by rw [Entry.right, Entry.head, hc.1, hc.2.1, hc.2.2.1, decide_eq_true hc.2.2.2, Entry.body, if_neg (by omega), if_neg (by omega), if_neg (by omega), hd] <;> rfl)), S33.dr0⟩

end Go.Proofs.YtanpinfhlbbjkaaGreat
