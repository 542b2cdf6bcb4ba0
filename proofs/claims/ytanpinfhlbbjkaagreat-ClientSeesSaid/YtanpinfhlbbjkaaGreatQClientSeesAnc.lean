import Derived.Test.YtanpinfhlbbjkaaGreatQClientSeesEntLaw
import Derived.Test.YtanpinfhlbbjkaaGreatQClientSeesCliF
import Derived.Test.YtanpinfhlbbjkaaGreatQClientSeesLaw18
set_option linter.unusedVariables false
set_option linter.unusedSimpArgs false
set_option maxRecDepth 100000
set_option maxHeartbeats 4000000
namespace Go.Proofs.YtanpinfhlbbjkaaGreat
open Go.RowKit Go.Ecal

theorem Small_c (ce : List Value) (e : Entry) (I : Gh) (R : List HP) (w : World) (S : Sat w I (R)) (he : entR.r I ce e) : Ret Tryz.prog 11 [.agg ce.toArray] w fun v w' => .bool (smallE e) = v ∧ Sat w' I (R) := by
  obtain ⟨v0, v1, v2, rfl, r0, r1, r2, ⟨o0, H0⟩, ⟨o1, H1⟩, r3, r4, r5, ⟨o2, H2⟩⟩ := he
  refine ret_E Tryz.func11 rfl Tryz.ntmps11 (by simp) ?_
  refine g2 ?_
  refine yB (cs := entRC e v0 v1 v2) S ?_
  intro b0 w0 S0
  refine g5 ?_
  have lqw := XRow.le (H2.row S0.le)
  skip
  refine g3 ?_
  refine vl _ rfl (r_lenX rfl (H2.row S0.le) U27) ?_
  refine g4 ?_
  refine EC_loop (fun m' E' w' => ∃ j : Nat, m' = e.wraps.length - j ∧ E' 8 = .int .i64 (j : Int) ∧ E' 1 = ptr b0 ∧ E' 6 = v2 ∧ E' 7 = .int .i64 (e.wraps.length : Int) ∧ (j ≤ e.wraps.length) ∧ (∀ w ∈ e.wraps.take j, w.box.length ≤ 100) ∧ Sat w' I (Blk b0 29 (entRC e v0 v1 v2) :: R)) _ ⟨0, rfl, rfl, rfl, rfl, rfl, Nat.zero_le _, (by simp), S0⟩ ?_
  rintro _ E0 w1 ⟨j, rfl, e0, e1, e2, e3, hj, hsm, S1⟩
  refine g6 ?_
  refine EC_if rfl (fun h0 => ?_) (fun h0 => ?_)
  refine g6 ?_
  refine vl (ptr (blkOf v2) (offOf v2 + ((j : Int) : Int).toNat * 2)) rfl (r_indexX (by exact e2) (H2.row S1.le) (by exact e0) (by omega) as' U27 (by kernel_rfl)) ?_
  obtain ⟨a0, ha0⟩ := get_some (l := e.wraps) (j := ((j : Int) : Int).toNat) as'
  obtain ⟨cs0, hc0, he0⟩ := H2.el ha0
  obtain ⟨v3, rfl, r6, ⟨o3, H3⟩⟩ := hc0
  refine vl (.agg ([.int .i64 a0.who, v3]).toArray) rfl (r_loadR (cs := [.int .i64 a0.who, v3]) rfl (he0 _ S1.le) U113 rfl (by kernel_rfl)) ?_
  refine yN [.int .i64 0, .slice none 0 0] S1 ?_
  intro b1 w2 S2
  refine yW0 S2 ?_ (h1 := ones_cons rfl (ones_cons o3 ones_nil))
  intro w3 S3
  refine g6 ?_
  refine vl _ rfl (lenB (r_len rfl (H3 _ S3.le) U26)) ?_
  refine g3 ?_
  refine EC_if rfl (fun h2 => ?_) (fun h2 => ?_)
  refine g11 ?_
  refine f1 Tryz.results11 ?_
  exact ⟨(by rw [smallE_no (show e.wraps[j]? = _ from ha0) (by omega)]), S3.dr0.dr0⟩
  refine g4 ?_
  refine EL_int ((j : Int) + 1) rfl (r_addi (by exact e0) rfl (by omega)) ?_
  intro x0 hx65
  refine g3 ?_
  refine ⟨_, ?_, j + 1, rfl, (Eq.trans (show _ = Value.int .i64 x0 from rfl) (congrArg _ (by omega))), (by exact e1), (by exact e2), (by exact e3), by omega, (small_next hsm (show e.wraps[j]? = _ from ha0) (by omega)), S3.dr0⟩
  first | omega | (simp; omega)
  refine g9 ?_
  refine vl _ rfl (lenB (r_len rfl (H0 _ S1.le) U26)) ?_
  refine g4 ?_
  refine EL_gite 21 rfl rfl rfl (.int .i64 (e.value.length : Int)) rfl (fun g69 => lenB (r_len (cond_of g69 rfl) (H1 _ S1.le) U26)) ?_
  refine g5 ?_
  refine EL_gite 27 rfl rfl rfl (.int .i64 (e.wraps.length : Int)) rfl (fun g73 => r_lenX (cond_of g73 rfl) (H2.row S1.le) U27) ?_
  refine g6 ?_
  refine f1 Tryz.results11 ?_
  exact ⟨(congrArg Value.bool (smallE_is (by rwa [List.take_of_length_le (by omega)] at hsm)).symm), S1.dr0⟩

theorem PutN_c (nt : List UInt8) (vt : List UInt8) (I : Gh) (R : List HP) (w : World) (S : Sat w I (R)) (hn : nt.length ≤ 100000) (hv : vt.length ≤ 100000) : Ret Tryz.prog 21 [.string (str nt), .string (str vt)] w fun v w' => ∃ cr : List Value, ∃ J : Gh, Gh.le I J ∧ .agg cr.toArray = v ∧ entR.r J cr (putEn 0 0 nt vt) ∧ Sat w' J (R) := by
  refine ret_E Tryz.func21 rfl Tryz.ntmps21 (by simp) ?_
  refine g2 ?_
  refine yN entR0 S ?_
  intro b0 w0 S0
  refine g5 ?_
  refine EL_bytes (l := nt) rfl rfl U9 U26 U5 (by first | omega | (simp; omega)) ?_
  intro v0 w1 B0 V0 R0 V21l
  obtain ⟨I0, le0, S1, H0⟩ := S0.newR B0 V0 R0 V21l
  refine g1 ?_
  refine EL_bytes (l := vt) rfl rfl U9 U26 U5 (by first | omega | (simp; omega)) ?_
  intro v1 w2 B1 V1 R1 V30l
  obtain ⟨I1, le1, S2, H1⟩ := S1.newR B1 V1 R1 V30l
  refine vl _ rfl (gB [.int .i64 1, .int .i64 0, .int .i64 0, v0, v1, .int .i64 0, .int .i64 0, .int .i64 0, .slice none 0 0] st_29 (parts3 rfl rfl rfl) (fill_one rfl rfl rfl (fill_one rfl (row_cells (H0 _ (lT le1 S2.le))) rfl (fill_one rfl (row_cells (H1 _ S2.le)) rfl fill_end)))) ?_
  refine yW0 S2 ?_ (h1 := ones_cons rfl (ones_cons rfl (ones_cons rfl (ones_cons (row_one (H0 _ (lT le1 S2.le))) (ones_cons (row_one (H1 _ S2.le)) (ones_cons rfl (ones_cons rfl (ones_cons rfl (ones_cons rfl ones_nil)))))))))
  intro w3 S3
  refine g3 ?_
  refine f1c Tryz.results21 ?_
  have q0 : (putEn 0 0 nt vt) = (⟨1, 0, 0, nt, vt, 0, 0, 0, []⟩ : Entry) := rfl
  have S4 := S3.dr0
  exact ⟨_, I1, (lT le0 le1), rfl, (by rw [q0]; exact ⟨v0, v1, (.slice none 0 0), rfl, (by dsimp only; omega), (by dsimp only; omega), (by dsimp only; omega), ⟨(row_one (H0 _ (lT le1 S4.le))), (H0.up le1)⟩, ⟨(row_one (H1 _ S4.le)), H1⟩, (by dsimp only; omega), (by dsimp only; omega), (by dsimp only; omega), ⟨rfl, RoX.nil⟩⟩), S4⟩

theorem Batch_c (v0 : Value) (l : List UInt8) (i : Int) (I : Gh) (R : List HP) (w : World) (S : Sat w I (R)) (Q0 : RoB I v0 l) (hi : -9223372036854775808 ≤ i ∧ i ≤ 9223372036854775807) : Ret Tryz.prog 24 [v0, .int .i64 i] w fun v w' => ∃ v1 : Value, ∃ J : Gh, Gh.le I J ∧ v1 = v ∧ Sat w' J (OwnB v1 (({ frV l with kind := 3, index := i } : FrameT).encB) :: R) := by
  have lq0 := RoB.le Q0 S.le
  refine ret_E Tryz.func24 rfl Tryz.ntmps24 (by simp) ?_
  refine g8 ?_
  refine yR (FDec_c _ _ _ _ _ S Q0) ?_
  rintro _ w0 ⟨cs0, I0, le0, rfl, h0, S0⟩
  obtain ⟨v2, v3, rfl, r0, r1, r2, ⟨o0, H0⟩, ⟨o1, H1⟩⟩ := h0
  refine g3 ?_
  refine yN frmR0 S0 ?_
  intro b0 w1 S1
  refine yW0 S1 ?_ (h1 := ones_cons rfl (ones_cons rfl (ones_cons rfl (ones_cons o0 (ones_cons o1 ones_nil)))))
  intro w2 S2
  refine g7 ?_
  refine yS0 S2 ?_
  intro w3 S3
  refine g1 ?_
  refine yS0 S3 ?_
  intro w4 S4
  refine g5 ?_
  refine yR (FEnc_c [.int .i64 3, .int .i64 ((frV l).coll), .int .i64 i, v2, v3] (⟨3, (frV l).coll, i, (frV l).links, (frV l).sum⟩ : FrameT) _ _ _ S4 ⟨v2, v3, rfl, (by dsimp only; omega), ad, ad, ⟨o0, H0⟩, ⟨o1, H1⟩⟩) ?_
  rintro _ w5 ⟨v4, I1, le1, rfl, S5⟩
  refine g14 ?_
  refine f1 Tryz.results24 ?_
  exact ⟨v4, I1, (lT le0 le1), rfl, S5.dr1⟩

def anchor_c_x0 : List Thing := (newR ([] : List Thing) (⟨1, 1, 1, []⟩ : WhoT).coll (⟨1, 1, 1, []⟩ : WhoT).founder (⟨1, 1, 1, []⟩ : WhoT).who (⟨1, 1, 1, []⟩ : WhoT).sec).1
def anchor_c_x1 : Entry := (putEn 0 0 ([97] : List UInt8) ([120] : List UInt8))
def anchor_c_x2 : List Thing := (newC [] 1 1 1 []).issueL ((newR [] 1 1 1 []).1) anchor_c_x1
def anchor_c_x3 : List Doc := ((newC [] 1 1 1 []).issueS ((newR [] 1 1 1 []).1) anchor_c_x1).view.2
def anchor_c_x4 : Pol := (((newC [] 1 1 1 []).issueS ((newR [] 1 1 1 []).1) anchor_c_x1).view.1)
def anchor_c_x6 : List Doc := (((newC [] 1 1 1 []).issueS ((newR [] 1 1 1 []).1) anchor_c_x1).r).docs
def anchor_c_x8 : List UInt8 := ({ frV (((newC [] 1 1 1 []).issueS ((newR [] 1 1 1 []).1) anchor_c_x1).pushF.encB) with kind := 3, index := 0 } : FrameT).encB
def anchor_c_x9 : List Thing := (((newC [] 1 1 1 []).issueS ((newR [] 1 1 1 []).1) anchor_c_x1).takeS anchor_c_x2 anchor_c_x8).1
theorem anchor_c (I : Gh) (R : List HP) (w : World) (S : Sat w I (R)) : Ret Tryz.prog 9 [] w fun v w' => ∃ J : Gh, Gh.le I J ∧ .bool true = v ∧ Sat w' J (R) := by
  refine ret_E Tryz.func9 rfl Tryz.ntmps9 (by simp) ?_
  refine g7 ?_
  refine yR (Signs_c _ _ _ S) ?_
  rintro _ w0 ⟨p0, rfl, S0⟩
  have o0 := Suite.one S0
  refine vl _ rfl (gB [.int .i64 1, .int .i64 1, .int .i64 1, .slice none 0 0] st_42 (parts3 rfl rfl rfl) (fill_one rfl rfl rfl (fill_one rfl rfl rfl (fill_one rfl rfl rfl fill_end)))) ?_
  refine yR (LNew_c _ _ [.int .i64 1, .int .i64 1, .int .i64 1, .slice none 0 0] (⟨1, 1, 1, []⟩ : WhoT) _ _ _ S0 ⟨(.slice none 0 0), rfl, (by dsimp only; omega), (by dsimp only; omega), (by dsimp only; omega), ⟨rfl, Ro.nil⟩⟩ (by decide) (by decide) (by decide)) ?_
  rintro _ w1 ⟨b0, I0, le0, rfl, S1⟩
  have q0 : newC ([] : List Thing) (⟨1, 1, 1, []⟩ : WhoT).coll (⟨1, 1, 1, []⟩ : WhoT).founder (⟨1, 1, 1, []⟩ : WhoT).who (⟨1, 1, 1, []⟩ : WhoT).sec = newC [] 1 1 1 [] := rfl
  have S2 := Sat.ah0 (CliP (ptr b0) p0) S1 q0
  have q1 : anchor_c_x0 = (newR [] 1 1 1 []).1 := rfl
  have S3 := Sat.ah1 (Suite p0) S2 q1
  refine g11 ?_
  refine vl (.bool false) rfl (r_dec (by decide) (r_neq rfl rfl)) ?_
  refine g2 ?_
  refine gl  19 rfl rfl rfl rfl (.bool false) rfl (r_eqptrnil rfl rfl U24) ?_
  refine g3 ?_
  refine yG (PutN_c ([97] : List UInt8) ([120] : List UInt8) _ _ _ S3 (by decide) (by decide)) ?_
  rintro _ w2 ⟨cs0, I1, le1, rfl, h0, S4⟩
  obtain ⟨v0, v1, v2, rfl, r0, r1, r2, ⟨o1, H0⟩, ⟨o2, H1⟩, r3, r4, r5, ⟨o3, H2⟩⟩ := h0
  refine yG (LIssue_c _ _ _ (entRC anchor_c_x1 v0 v1 v2) anchor_c_x1 _ _ _ _ S4 ⟨v0, v1, v2, rfl, ad, ad, ad, ⟨o1, H0⟩, ⟨o2, H1⟩, ad, ad, ad, ⟨o3, H2⟩⟩ (of_decide_eq_true (by kernel_rfl))) ?_
  rintro _ w3 ⟨I2, le2, rfl, S5⟩
  refine gl 23 rfl rfl rfl rfl _ rfl (dcF (r_neq rfl rfl) (by kernel_rfl)) ?_
  refine g3 ?_
  refine yG (LTally_c _ _ _ _ _ _ S5) ?_
  rintro _ w4 ⟨rfl, S6⟩
  refine gl 29 rfl rfl rfl rfl _ rfl (dcF (r_cneq rfl rfl (fw_is (n := (((newC [] 1 1 1 []).issueS ((newR [] 1 1 1 []).1) anchor_c_x1).r.ch.links.length : Int)) (by first | omega | exact (of_decide_eq_true (by kernel_rfl)))) (fw_is (n := (((newC [] 1 1 1 []).issueS ((newR [] 1 1 1 []).1) anchor_c_x1).pend.length : Int)) (by first | omega | exact (of_decide_eq_true (by kernel_rfl)))) (fw_const (x := 0) (n := 0) (by decide +kernel) (by decide)) (fw_const (x := 4607182418800017408) (n := 1) (by decide +kernel) (by decide))) (by kernel_rfl)) ?_
  refine g9 ?_
  refine yR (LSee_c _ _ _ _ _ _ S6) ?_
  rintro _ w5 ⟨cs1, q2, I3, le3, rfl, h2, S7⟩
  obtain ⟨v3, rfl, r6, r7, ⟨o4, H3⟩⟩ := h2
  refine g3 ?_
  refine yN polR0 S7 ?_
  intro b1 w6 S8
  refine yW0 S8 ?_ (h1 := ones_cons rfl (ones_cons rfl (ones_cons o4 ones_nil)))
  intro w7 S9
  refine g6 ?_
  refine EL_lit w7.heap.size #[.int .u8 97] elB rfl (by decide) rfl (Nat.le_refl _) (by kernel_rfl) ?_
  intro v4 w8 O0 B0 k0 z0
  have S10 : Sat _ _ (OwnB v4 [(97 : UInt8)] :: _) := S9.newO B0 (own_eq (l := [(97 : UInt8)]) O0 (by simp [bof_val, byt]))
  refine EL_mark (v := v4) rfl rfl (S10.own 0 rfl) (by simp) U26 U5 ?_
  intro w9 R0 G0 z1
  obtain ⟨g91, q3⟩ : ∃ g, v4.ownBlock = some g := own_block (S10.own 0 rfl) (by simp)
  obtain ⟨I4, le4, S11, H4⟩ : ∃ J : Gh, Gh.le I3 J ∧ Sat w9 J (Blk b1 63 (polRC anchor_c_x4 v3) :: DocsP q2 anchor_c_x3 :: CliP (ptr b0) p0 ((newC [] 1 1 1 []).issueS ((newR [] 1 1 1 []).1) anchor_c_x1) :: Suite p0 anchor_c_x2 :: R) ∧ Ro J v4 ([(97 : UInt8)].map byt) := S10.frzTo 0 rfl G0 q3 R0
  refine yR (DGet_c _ _ _ _ _ _ _ S11.fr1 H4 (by decide) (of_decide_eq_true (by kernel_rfl))) ?_
  rintro _ w10 ⟨v5, I5, le5, rfl, H5, S12⟩
  refine vl (.tuple #[v5, .bool true]) rfl (r_move (Eq.trans (show _ = .tuple #[v5, .bool ((lkD anchor_c_x3 [(97 : UInt8)]).isSome)] from rfl) (by rw [show ((lkD anchor_c_x3 [(97 : UInt8)]).isSome) = true from by kernel_rfl]))) ?_
  refine g9 ?_
  refine yR (LPush_c _ _ _ _ _ _ S12.fr2) ?_
  rintro _ w11 ⟨v6, I6, le6, rfl, S13⟩
  have hpl : 0 < (((newC [] 1 1 1 []).issueS ((newR [] 1 1 1 []).1) anchor_c_x1).pushR).length := of_decide_eq_true (by kernel_rfl)
  have oH108 := (OwnX.one S13 0 rfl (by decide))
  obtain ⟨I7, le7, S14, H6⟩ := S13.fx0 (by decide)
  refine g11 ?_
  refine vl _ rfl (dcF (r_not rfl) rfl) ?_
  refine g2 ?_
  refine gl 53 rfl rfl rfl rfl _ rfl (r_str rfl (H5 _ (lT (lT le6 le7) S14.le)) U26 U5 U9) (gl 53 rfl rfl rfl rfl _ rfl (dcF (r_neqs rfl rfl) (by kernel_rfl)) ?_)
  refine g3 ?_
  refine gl 58 rfl rfl rfl rfl _ rfl (dcF (r_neq rfl rfl) (by kernel_rfl)) ?_
  refine g3 ?_
  refine gl 62 rfl rfl rfl rfl _ rfl (r_lenX rfl (H6.row S14.le) U33) (gl 62 rfl rfl rfl rfl _ rfl (dcF (r_neq rfl rfl) (by kernel_rfl)) ?_)
  refine g3 ?_
  obtain ⟨bb109, wv109, rv109, pv109, hq109, cok109, hrv109, Hw109, So109⟩ := CliP.opn S14
  obtain rfl : b0 = bb109 := by injection hq109 with hq; injection hq with hq; injection hq
  have lwv109 := RoB.le Hw109 So109.le
  refine yG (LRep_c _ _ _ _ _ ((newC [] 1 1 1 []).issueS ((newR [] 1 1 1 []).1) anchor_c_x1) _ _ _ So109) ?_
  rintro _ w12 ⟨rfl, S15⟩
  refine yG (RpDocs_c _ _ _ _ _ _ S15.fr1) ?_
  rintro _ w13 ⟨q4, rfl, S16⟩
  refine yG (DLen_c _ _ _ _ _ S16) ?_
  rintro _ w14 ⟨rfl, S17⟩
  refine gl 67 rfl rfl rfl rfl _ rfl (dcF (r_neq rfl rfl) (by kernel_rfl)) ?_
  refine g10 ?_
  refine vl (ptr (blkOf v6) (offOf v6 + (0 : Int).toNat * 1)) rfl (r_indexX rfl (H6.row S17.le) rfl (by omega) as' U33 (by kernel_rfl)) ?_
  have ha0 : (((newC [] 1 1 1 []).issueS ((newR [] 1 1 1 []).1) anchor_c_x1).pushR)[(0 : Int).toNat]? = some (((newC [] 1 1 1 []).issueS ((newR [] 1 1 1 []).1) anchor_c_x1).pushF.encB) := by kernel_rfl
  obtain ⟨cs2, hc0, he0⟩ := H6.el ha0
  obtain ⟨v7, rfl, o5, H7⟩ := hc0
  refine vl _ rfl (r_load0 rfl (he0 _ S17.le) U26 rfl) ?_
  refine yR (Batch_c _ _ 0 _ _ _ S17 H7 (by decide)) ?_
  rintro _ w15 ⟨v8, I8, le8, rfl, S18⟩
  have S19 : Sat _ _ (CliP (ptr b0) p0 ((newC [] 1 1 1 []).issueS ((newR [] 1 1 1 []).1) anchor_c_x1) :: _) := CliP.cls (c := ((newC [] 1 1 1 []).issueS ((newR [] 1 1 1 []).1) anchor_c_x1)) (wv := wv109) (rv := rv109) (pv := pv109) cok109 hrv109 (Hw109.up le8) S18.fr4.fr3.fr4
  obtain ⟨I9, le9, S20, H8⟩ := S19.fb1
  refine yR (LTake_c _ _ _ _ _ _ _ _ _ S20.fr4.fr1 H8 (of_decide_eq_true (by kernel_rfl)) (of_decide_eq_true (by kernel_rfl))) ?_
  rintro _ w16 ⟨v9, I10, le10, rfl, S21⟩
  have q5 : ((newC [] 1 1 1 []).issueS ((newR [] 1 1 1 []).1) anchor_c_x1).takeO anchor_c_x2 anchor_c_x8 = ([0] : List Int) := by kernel_rfl
  have S22 : Sat w16 I10 (Own 31 1 v9 (([0] : List Int)).length ((([0] : List Int)).map (Value.int .i64)) :: CliP (ptr b0) p0 ((((newC [] 1 1 1 []).issueS ((newR [] 1 1 1 []).1) anchor_c_x1).takeS anchor_c_x2 anchor_c_x8).2) :: Suite p0 anchor_c_x9 :: DocsP q4 anchor_c_x6 :: DocsP q2 anchor_c_x3 :: Blk b1 63 (polRC anchor_c_x4 v3) :: R) := S21.as 0 rfl (congrArg (fun zz => Own 31 1 v9 (zz).length ((zz).map (Value.int .i64))) q5)
  refine g10 ?_
  refine vl _ rfl (dcT (r_eql rfl rfl) (by kernel_rfl)) ?_
  refine g2 ?_
  refine gl  85 rfl rfl rfl rfl (.int .i64 1) rfl (r_asn (by rfl) (lenF (r_len rfl (own_row (S22.own 0 rfl)) U48))) (gl  85 rfl rfl rfl rfl (.bool true) rfl (r_dec (by decide) (r_eql rfl rfl)) ?_)
  refine g3 ?_
  refine gl  90 rfl rfl rfl rfl (.pointer (some (at_ v9 ((0 : Int).toNat)))) rfl (r_index rfl (own_row (S22.own 0 rfl)) rfl (by omega) as' U48 (by kernel_rfl)) (gl 90 rfl rfl rfl rfl _ rfl (r_load rfl ((own_row (S22.own 0 rfl)).cell (u := .int .i64 0) rfl) U31 rfl) (gl  90 rfl rfl rfl rfl (.bool true) rfl (r_dec (by decide) (r_eql rfl rfl)) ?_))
  refine g3 ?_
  have S23 := S22.fr1
  obtain ⟨bb148, wv148, rv148, pv148, hq148, cok148, hrv148, Hw148, So148⟩ := CliP.opn S23
  obtain rfl : b0 = bb148 := by injection hq148 with hq; injection hq with hq; injection hq
  have lwv148 := RoB.le Hw148 So148.le
  have S24 := So148.fr2
  refine yG (LPend_c _ _ _ _ _ ((((newC [] 1 1 1 []).issueS ((newR [] 1 1 1 []).1) anchor_c_x1).takeS anchor_c_x2 anchor_c_x8).2) _ _ _ S24.fr1 cok148.pend8 (fun w hw => (cok148.pendR w hw).1)) ?_
  rintro _ w17 ⟨v10, I11, le11, rfl, S25⟩
  refine gl 96 rfl rfl rfl rfl _ rfl (r_lenX rfl (OwnX.row S25 0 rfl (by decide)).1 U22) (gl 96 rfl rfl rfl rfl _ rfl (dcT (r_eql rfl rfl) (by kernel_rfl)) ?_)
  refine g3 ?_
  have S26 : Sat _ _ (CliP (ptr b0) p0 ((((newC [] 1 1 1 []).issueS ((newR [] 1 1 1 []).1) anchor_c_x1).takeS anchor_c_x2 anchor_c_x8).2) :: _) := CliP.cls (c := ((((newC [] 1 1 1 []).issueS ((newR [] 1 1 1 []).1) anchor_c_x1).takeS anchor_c_x2 anchor_c_x8).2)) (wv := wv148) (rv := rv148) (pv := pv148) cok148 hrv148 (Hw148.up le11) S25.fr2.fr3.fr3
  refine yG (LTally_c _ _ _ _ _ _ S26) ?_
  rintro _ w18 ⟨rfl, S27⟩
  refine gl 102 rfl rfl rfl rfl _ rfl (dcT (r_ceql rfl rfl (fw_is (n := (((((newC [] 1 1 1 []).issueS ((newR [] 1 1 1 []).1) anchor_c_x1).takeS anchor_c_x2 anchor_c_x8).2).r.ch.links.length : Int)) (by first | omega | exact (of_decide_eq_true (by kernel_rfl)))) (fw_is (n := (((((newC [] 1 1 1 []).issueS ((newR [] 1 1 1 []).1) anchor_c_x1).takeS anchor_c_x2 anchor_c_x8).2).pend.length : Int)) (by first | omega | exact (of_decide_eq_true (by kernel_rfl)))) (fw_const (x := 4607182418800017408) (n := 1) (by decide +kernel) (by decide)) (fw_const (x := 0) (n := 0) (by decide +kernel) (by decide))) (by kernel_rfl)) ?_
  refine g3 ?_
  obtain ⟨bb162, wv162, rv162, pv162, hq162, cok162, hrv162, Hw162, So162⟩ := CliP.opn S27
  obtain rfl : b0 = bb162 := by injection hq162 with hq; injection hq with hq; injection hq
  have lwv162 := RoB.le Hw162 So162.le
  refine yG (LRep_c _ _ _ _ _ ((((newC [] 1 1 1 []).issueS ((newR [] 1 1 1 []).1) anchor_c_x1).takeS anchor_c_x2 anchor_c_x8).2) _ _ _ So162) ?_
  rintro _ w19 ⟨rfl, S28⟩
  refine yG (RpDocs_c _ _ _ _ _ _ S28.fr1) ?_
  rintro _ w20 ⟨q6, rfl, S29⟩
  refine yG (DLen_c _ _ _ _ _ S29) ?_
  rintro _ w21 ⟨rfl, S30⟩
  refine gl 107 rfl rfl rfl rfl _ rfl (dcT (r_eql rfl rfl) (by kernel_rfl)) ?_
  refine g5 ?_
  refine f1 Tryz.results9 ?_
  exact ⟨I11, (lT (lT (lT (lT (lT (lT (lT (lT (lT (lT (lT le0 le1) le2) le3) le4) le5) le6) le7) le8) le9) le10) le11), rfl, S30.dr0.dr0.dr0.dr0.dr0.dr0.dr0.dr0.dr0.dr0⟩

end Go.Proofs.YtanpinfhlbbjkaaGreat
