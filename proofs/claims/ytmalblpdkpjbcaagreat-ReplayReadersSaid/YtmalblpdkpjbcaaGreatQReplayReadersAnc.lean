import Derived.Test.YtmalblpdkpjbcaaGreatQReplayReadersLwA
set_option linter.unusedVariables false
set_option linter.unusedSimpArgs false
set_option maxRecDepth 100000
set_option maxHeartbeats 4000000
namespace Go.Proofs.YtmalblpdkpjbcaaGreat
open Go.RowKit Go.Ecal

def anchor_c_x0 : Rpl := (newR ([] : List Thing) (⟨1, 1, 2, []⟩ : WhoT).coll (⟨1, 1, 2, []⟩ : WhoT).founder (⟨1, 1, 2, []⟩ : WhoT).who (⟨1, 1, 2, []⟩ : WhoT).sec).2
def anchor_c_x1 : List Thing := (newR ([] : List Thing) (⟨1, 1, 2, []⟩ : WhoT).coll (⟨1, 1, 2, []⟩ : WhoT).founder (⟨1, 1, 2, []⟩ : WhoT).who (⟨1, 1, 2, []⟩ : WhoT).sec).1
def anchor_c_x2 : Entry := (putEn 1 1 ([97] : List UInt8) ([120] : List UInt8))
def anchor_c_x3 : List UInt8 := (sealRR anchor_c_x1 ([] : List UInt8) (keyAt anchor_c_x0.ks 0) (⟨ 1, 0, anchor_c_x2.writer, 1, []⟩ : Record) anchor_c_x2).encB
def anchor_c_x4 : List Thing := sealRL anchor_c_x1 ([] : List UInt8) (keyAt anchor_c_x0.ks 0) (⟨ 1, 0, anchor_c_x2.writer, 1, []⟩ : Record) anchor_c_x2
def anchor_c_x5 : Rpl := (anchor_c_x0.comS anchor_c_x4 anchor_c_x3).2
def anchor_c_x6 : List Thing := (anchor_c_x0.comS anchor_c_x4 anchor_c_x3).1
def anchor_c_x7 : Rpl := (anchor_c_x5.comS anchor_c_x6 anchor_c_x3).2
def anchor_c_x8 : List Thing := (anchor_c_x5.comS anchor_c_x6 anchor_c_x3).1
def anchor_c_x9 : Entry := (putEn 2 1 ([97] : List UInt8) ([121] : List UInt8))
def anchor_c_x10 : List UInt8 := (sealRR anchor_c_x8 ([] : List UInt8) (keyAt anchor_c_x0.ks 0) (⟨ 1, 0, anchor_c_x9.writer, 1, []⟩ : Record) anchor_c_x9).encB
def anchor_c_x11 : List Thing := sealRL anchor_c_x8 ([] : List UInt8) (keyAt anchor_c_x0.ks 0) (⟨ 1, 0, anchor_c_x9.writer, 1, []⟩ : Record) anchor_c_x9
def anchor_c_x12 : Rpl := (anchor_c_x7.comS anchor_c_x11 anchor_c_x10).2
def anchor_c_x13 : List Thing := (anchor_c_x7.comS anchor_c_x11 anchor_c_x10).1
theorem anchor_c (I : Gh) (R : List HP) (w : World) (S : Sat w I (R)) : Ret Tryz.prog 9 [] w fun v w' => ∃ J : Gh, Gh.le I J ∧ .bool true = v ∧ Sat w' J (R) := by
  refine ret_E Tryz.func9 rfl Tryz.ntmps9 (by simp) ?_
  refine g7 ?_
  refine yR (Signs_c _ _ _ S) ?_
  rintro _ w0 ⟨p0, rfl, S0⟩
  refine g6 ?_
  refine vl _ rfl (gB [.int .i64 1, .int .i64 1, .int .i64 2, .slice none 0 0] st_32 (parts3 rfl rfl rfl) (fill_one rfl rfl rfl (fill_one rfl rfl rfl (fill_one rfl rfl rfl fill_end)))) ?_
  refine yR (RpNewOk_c _ _ [.int .i64 1, .int .i64 1, .int .i64 2, .slice none 0 0] (⟨1, 1, 2, []⟩ : WhoT) _ _ _ S0 ⟨(.slice none 0 0), rfl, (by dsimp only; omega), (by dsimp only; omega), (by dsimp only; omega), ⟨rfl, Ro.nil⟩⟩ (of_decide_eq_true (by kernel_rfl)) (by decide) (by decide)) ?_
  rintro _ w1 ⟨b0, I0, le0, rfl, S1⟩
  refine g11 ?_
  refine vl (.bool false) rfl (r_dec (by decide) (r_neq rfl rfl)) ?_
  refine g2 ?_
  refine gl  24 rfl rfl rfl rfl (.bool false) rfl (r_eqptrnil rfl rfl U26) ?_
  refine g9 ?_
  refine yR (RpKey_c _ _ _ 0 _ _ _ S1) ?_
  rintro _ w2 ⟨v0, rfl, S2⟩
  refine vl (.tuple #[v0, .bool true]) rfl (r_move (Eq.trans (show _ = .tuple #[v0, .bool (!(keyAt anchor_c_x0.ks 0).isEmpty)] from rfl) (by rw [show (!(keyAt anchor_c_x0.ks 0).isEmpty) = true from by kernel_rfl]))) ?_
  refine g10 ?_
  refine yR (putL_c 1 1 ([97] : List UInt8) ([120] : List UInt8) _ _ _ S2 au au au au) ?_
  rintro _ w3 ⟨cs0, I1, le1, rfl, h0, S3⟩
  obtain ⟨v1, v2, v3, rfl, r0, r1, r2, ⟨o0, H0⟩, ⟨o1, H1⟩, r3, r4, r5, ⟨o2, H2⟩⟩ := h0
  obtain ⟨I2, le2, S4, H3⟩ := S3.fb0
  refine yR (sealed_c _ _ (.slice none 0 0) ([] : List UInt8) _ _ 1 0 1 (entRC anchor_c_x2 v1 v2 v3) anchor_c_x2 _ _ _ S4.fr1 Ro.nil H3 ⟨v1, v2, v3, rfl, ad, ad, ad, ⟨o0, (H0.up le2)⟩, ⟨o1, (H1.up le2)⟩, ad, ad, ad, ⟨o2, (H2.up le2)⟩⟩ (of_decide_eq_true (by kernel_rfl)) (by decide) au au au) ?_
  rintro _ w4 ⟨v4, I3, le3, rfl, S5⟩
  refine g7 ?_
  obtain ⟨I4, le4, S6, H4⟩ := S5.fb0
  refine yR (RpCom_c _ _ _ _ _ _ _ _ _ S6.fr1 H4 (of_decide_eq_true (by kernel_rfl)) (of_decide_eq_true (by kernel_rfl)) (by decide) (of_decide_eq_true (by kernel_rfl)) (of_decide_eq_true (by kernel_rfl))) ?_
  rintro _ w5 ⟨I5, le5, rfl, S7⟩
  refine g11 ?_
  refine yR (RpCom_c _ _ _ _ _ _ _ _ _ S7 (H4.up le5) (of_decide_eq_true (by kernel_rfl)) (of_decide_eq_true (by kernel_rfl)) (by decide) (of_decide_eq_true (by kernel_rfl)) (of_decide_eq_true (by kernel_rfl))) ?_
  rintro _ w6 ⟨I6, le6, rfl, S8⟩
  refine g12 ?_
  refine yR (putL_c 2 1 ([97] : List UInt8) ([121] : List UInt8) _ _ _ S8 au au au au) ?_
  rintro _ w7 ⟨cs1, I7, le7, rfl, h1, S9⟩
  obtain ⟨v5, v6, v7, rfl, r6, r7, r8, ⟨o3, H5⟩, ⟨o4, H6⟩, r9, r10, r11, ⟨o5, H7⟩⟩ := h1
  refine yR (sealed_c _ _ (.slice none 0 0) ([] : List UInt8) _ _ 1 0 1 (entRC anchor_c_x9 v5 v6 v7) anchor_c_x9 _ _ _ S9.fr1 Ro.nil (H3.up (lT (lT (lT (lT le3 le4) le5) le6) le7)) ⟨v5, v6, v7, rfl, ad, ad, ad, ⟨o3, H5⟩, ⟨o4, H6⟩, ad, ad, ad, ⟨o5, H7⟩⟩ (of_decide_eq_true (by kernel_rfl)) (by decide) au au au) ?_
  rintro _ w8 ⟨v8, I8, le8, rfl, S10⟩
  obtain ⟨I9, le9, S11, H8⟩ := S10.fb0
  refine yR (RpCom_c _ _ _ _ _ _ _ _ _ S11.fr1 H8 (of_decide_eq_true (by kernel_rfl)) (of_decide_eq_true (by kernel_rfl)) (by decide) (of_decide_eq_true (by kernel_rfl)) (of_decide_eq_true (by kernel_rfl))) ?_
  rintro _ w9 ⟨I10, le10, rfl, S12⟩
  refine g10 ?_
  refine yR (RpDocs_c _ _ _ _ _ _ S12) ?_
  rintro _ w10 ⟨q0, rfl, S13⟩
  refine EL_lit w10.heap.size #[.int .u8 97] elB rfl (by decide) rfl (Nat.le_refl _) (by kernel_rfl) ?_
  intro v9 w11 O0 B0 k0 z0
  have S14 : Sat _ _ (OwnB v9 [(97 : UInt8)] :: _) := S13.newO B0 (own_eq (l := [(97 : UInt8)]) O0 (by simp [bof_val, byt]))
  refine EL_mark (v := v9) rfl rfl (S14.own 0 rfl) (by simp) U30 U5 ?_
  intro w12 R0 G0 z1
  obtain ⟨g121, q1⟩ : ∃ g, v9.ownBlock = some g := own_block (S14.own 0 rfl) (by simp)
  obtain ⟨I11, le11, S15, H9⟩ : ∃ J : Gh, Gh.le I10 J ∧ Sat w12 J (DocsP q0 anchor_c_x12.docs :: RplP (ptr b0) p0 anchor_c_x12 :: Suite p0 anchor_c_x13 :: R) ∧ Ro J v9 ([(97 : UInt8)].map byt) := S14.frzTo 0 rfl G0 q1 R0
  refine yR (DGet_c _ _ _ _ _ _ _ S15 H9 au (of_decide_eq_true (by kernel_rfl))) ?_
  rintro _ w13 ⟨v10, I12, le12, rfl, H10, S16⟩
  refine vl (.tuple #[v10, .bool true]) rfl (r_move (Eq.trans (show _ = .tuple #[v10, .bool ((lkD anchor_c_x12.docs [(97 : UInt8)]).isSome)] from rfl) (by rw [show ((lkD anchor_c_x12.docs [(97 : UInt8)]).isSome) = true from by kernel_rfl]))) ?_
  refine g11 ?_
  refine gl 67 rfl rfl rfl rfl _ rfl (dcT (r_eql rfl rfl) (by kernel_rfl)) ?_
  refine g3 ?_
  refine gl 71 rfl rfl rfl rfl _ rfl (dcT (r_eql rfl rfl) (by kernel_rfl)) ?_
  refine g3 ?_
  refine gl 75 rfl rfl rfl rfl _ rfl (dcT (r_eql rfl rfl) (by kernel_rfl)) ?_
  refine g6 ?_
  refine gl 82 rfl rfl rfl rfl _ rfl (r_str rfl (H10 _ S16.le) U30 U5 U9) (gl 82 rfl rfl rfl rfl _ rfl (dcT (r_eqls rfl rfl) (by kernel_rfl)) ?_)
  refine g3 ?_
  refine yG (RpChain_c _ _ _ _ _ _ S16.fr1) ?_
  rintro _ w14 ⟨b1, sv0, cv0, vm0, dv0, rv0, rfl, h2, h3, h4, h5, h6, H11, H12, S17⟩
  obtain rfl : b0 = b1 := by have hq := h2; injection hq with hq; injection hq with hq; injection hq
  refine yG (CLen_c _ _ _ _ _ _ S17.fr1) ?_
  rintro _ w15 ⟨rfl, S18⟩
  have S19 : Sat _ _ (RplP (ptr b0) p0 anchor_c_x12 :: _) := RplP.cls (s := anchor_c_x12) (sv := sv0) (cv := cv0) (vm := vm0) (dv := dv0) (rv := rv0) h3 h4 h5 h6 H11 H12 S18.fr3.fr3.fr2.fr3
  refine gl 87 rfl rfl rfl rfl _ rfl (dcT (r_eql rfl rfl) (by kernel_rfl)) ?_
  refine g3 ?_
  refine yG (RpSeen_c _ _ _ 2 _ _ _ S19) ?_
  rintro _ w16 ⟨rfl, S20⟩
  refine gl 93 rfl rfl rfl rfl _ rfl (dcT (r_eql rfl rfl) (by kernel_rfl)) ?_
  refine g5 ?_
  refine f1 Tryz.results9 ?_
  exact ⟨I12, (lT (lT (lT (lT (lT (lT (lT (lT (lT (lT (lT (lT le0 le1) le2) le3) le4) le5) le6) le7) le8) le9) le10) le11) le12), rfl, S20.dr0.dr0.dr0⟩

end Go.Proofs.YtmalblpdkpjbcaaGreat
