/-
  Of two members of one collection, both of whom have each epoch's key, both make the same of any list.
  Its conditions: none: whatever the input, in whatever memory.
-/
import Derived.Test.YtmalblpdkpjbcaaGreatRows
import Derived.ProofKit
import Derived.OpenShut
import Derived.ShutString
import Derived.ChangeOld
import Derived.Test.YtmalblpdkpjbcaaGreatQReplayReadersTwA
set_option linter.unusedVariables false
set_option linter.unusedSimpArgs false
namespace Go.Proofs.YtmalblpdkpjbcaaGreat.replayReaders
open Go.ChangeShapes Go.WideShapes Go.ChangeAt Go.RowKit Go.Ecal
open Go.ChangeMaps (open_string shut_string)
set_option maxRecDepth 100000
def ReplayReaders_w_x0 : Rpl := (newR ([] : List Thing) (⟨1, 1, 1, []⟩ : WhoT).coll (⟨1, 1, 1, []⟩ : WhoT).founder (⟨1, 1, 1, []⟩ : WhoT).who (⟨1, 1, 1, []⟩ : WhoT).sec).2
def ReplayReaders_w_x1 : List Thing := (newR ([] : List Thing) (⟨1, 1, 1, []⟩ : WhoT).coll (⟨1, 1, 1, []⟩ : WhoT).founder (⟨1, 1, 1, []⟩ : WhoT).who (⟨1, 1, 1, []⟩ : WhoT).sec).1
def ReplayReaders_w_x2 : Rpl := (newR ReplayReaders_w_x1 (⟨1, 1, 2, []⟩ : WhoT).coll (⟨1, 1, 2, []⟩ : WhoT).founder (⟨1, 1, 2, []⟩ : WhoT).who (⟨1, 1, 2, []⟩ : WhoT).sec).2
def ReplayReaders_w_x3 : List Thing := (newR ReplayReaders_w_x1 (⟨1, 1, 2, []⟩ : WhoT).coll (⟨1, 1, 2, []⟩ : WhoT).founder (⟨1, 1, 2, []⟩ : WhoT).who (⟨1, 1, 2, []⟩ : WhoT).sec).1
theorem ReplayReaders_w (v0 : Value) (lst : (List (List UInt8))) (rotate : Int) (I : Gh) (R : List HP) (w : World) (S : Sat w I (R)) (Q0 : RoX I v0 strR lst) (rrotate : -9223372036854775808 ≤ rotate ∧ rotate ≤ 9223372036854775807) : Ret Tryz.prog 3 [v0, .int .i64 rotate] w fun v w' => ∃ J : Gh, Gh.le I J ∧ .bool true = v ∧ Sat w' J (R) := by
  have lq0 := XRow.le (Q0.row S.le)
  refine ret_E Tryz.func3 rfl Tryz.ntmps3 (by simp) ?_
  refine g8 ?_
  refine yR (anchor_c _ _ _ S) ?_
  rintro _ w0 ⟨I0, le0, rfl, S0⟩
  refine vl _ rfl (dcF (r_not rfl) rfl) ?_
  refine g9 ?_
  refine vl _ rfl (r_lenX rfl (Q0.row (lT le0 S0.le)) U22) ?_
  refine g7 ?_
  refine EC_cond (t := (decide (12 < (lst.length : Int))) || (decide (rotate < 0))) rfl (fun h0 => ?_) (fun h0 => ?_)
  refine g7 ?_
  refine f1 Tryz.results3 ?_
  exact ⟨I0, le0, rfl, S0⟩
  have hg42 : lst.length ≤ 12 ∧ 0 ≤ rotate := by simp at h0; omega
  refine g4 ?_
  refine yR (Signs_c _ _ _ S0) ?_
  rintro _ w1 ⟨p0, rfl, S1⟩
  have o0 := Suite.one S1
  refine yN [.pointer none] S1 ?_
  intro b0 w2 S2
  refine EL_storeA (j := 0) (u := p0) rfl rfl (S2.a0) (by first | decide | (simp; omega) | simp) o0 (by kernel_rfl) ?_
  intro w3 A0 K0 z0
  have S3 := S2.wr0 (ds := [p0]) K0 A0
  refine g5 ?_
  refine vl _ rfl (gB [.int .i64 1, .int .i64 1, .int .i64 1, .slice none 0 0] st_32 (parts3 rfl rfl rfl) (fill_one rfl rfl rfl (fill_one rfl rfl rfl (fill_one rfl rfl rfl fill_end)))) ?_
  refine yR (RpNewOk_c _ _ [.int .i64 1, .int .i64 1, .int .i64 1, .slice none 0 0] (⟨1, 1, 1, []⟩ : WhoT) _ _ _ S3.fr1 ⟨(.slice none 0 0), rfl, (by dsimp only; omega), (by dsimp only; omega), (by dsimp only; omega), ⟨rfl, Ro.nil⟩⟩ (of_decide_eq_true (by kernel_rfl)) (by decide) (by decide)) ?_
  rintro _ w4 ⟨b1, I1, le1, rfl, S4⟩
  refine g3 ?_
  refine yN [.pointer none] S4 ?_
  intro b2 w5 S5
  refine yS0 S5 ?_
  intro w6 S6
  refine g6 ?_
  refine vl _ rfl (gB [.int .i64 1, .int .i64 1, .int .i64 2, .slice none 0 0] st_32 (parts3 rfl rfl rfl) (fill_one rfl rfl rfl (fill_one rfl rfl rfl (fill_one rfl rfl rfl fill_end)))) ?_
  refine yR (RpNewOk_c _ _ [.int .i64 1, .int .i64 1, .int .i64 2, .slice none 0 0] (⟨1, 1, 2, []⟩ : WhoT) _ _ _ S6.fr2 ⟨(.slice none 0 0), rfl, (by dsimp only; omega), (by dsimp only; omega), (by dsimp only; omega), ⟨rfl, Ro.nil⟩⟩ (of_decide_eq_true (by kernel_rfl)) (by decide) (by decide)) ?_
  rintro _ w7 ⟨b3, I2, le2, rfl, S7⟩
  refine g3 ?_
  refine yN [.pointer none] S7 ?_
  intro b4 w8 S8
  refine yS0 S8 ?_
  intro w9 S9
  refine g7 ?_
  refine vl (.bool false) rfl (r_dec (by decide) (r_neq rfl rfl)) ?_
  refine g2 ?_
  refine gl  39 rfl rfl rfl rfl (.bool false) rfl (r_dec (by decide) (r_neq rfl rfl)) ?_
  refine g9 ?_
  refine yR (RpKey_c _ _ _ 0 _ _ _ S9.fr4) ?_
  rintro _ w10 ⟨v1, rfl, S10⟩
  obtain ⟨hg0, ht0⟩ := Good.begin (s := ReplayReaders_w_x0) (t := ReplayReaders_w_x2) (M := ReplayReaders_w_x3) (L1 := (newR [] 1 1 1 []).1) rfl rfl rfl rfl
  refine vl (.tuple #[v1, .bool true]) rfl (r_move (Eq.trans (show _ = .tuple #[v1, .bool (!(keyAt ReplayReaders_w_x0.ks 0).isEmpty)] from rfl) (by rw [show (!(keyAt ReplayReaders_w_x0.ks 0).isEmpty) = true from by kernel_rfl]))) ?_
  refine g2 ?_
  refine yN [.slice none 0 0] S10 ?_
  intro b5 w11 S11
  refine yS0 S11 ?_ (hu := own_one (S11.own 1 rfl))
  intro w12 S12
  refine g5 ?_
  refine vl (.func (.func 13) #[] [ptr b0, ptr b5, ptr b2, ptr b4].toArray) rfl (r_mkfun rfl rfl) ?_
  refine g7 ?_
  refine vl _ rfl (dcF (r_not rfl) rfl) ?_
  refine g3 ?_
  refine gl  51 rfl rfl rfl rfl (.int .i64 (rotate % 4)) rfl (r_remi rfl rfl (by omega) (by omega)) (gl  51 rfl rfl rfl rfl (.int .i64 (2 * (rotate % 4))) rfl (r_muli rfl rfl (by omega)) (gl  51 rfl rfl rfl rfl (.int .i64 (1 + (2 * (rotate % 4)))) rfl (r_addi rfl rfl (by omega)) (gl 51 rfl rfl rfl rfl _ rfl (gB [.int .i64 3, .int .i64 0, .int .i64 0, .slice none 0 0, .slice none 0 0, .int .i64 2, .int .i64 (1 + (2 * (rotate % 4))), .int .i64 0, .slice none 0 0] st_37 (parts3 rfl rfl rfl) (fill_one rfl rfl rfl (fill_one rfl rfl rfl (fill_one rfl rfl rfl fill_end)))) ?_)))
  obtain ⟨I3, le3, S13, H0⟩ := S12.fb1
  refine EL_gretw 51 rfl rfl rfl rfl _ rfl rfl Tryz.func13 rfl nm13 rfl (RdBoth_c [.int .i64 3, .int .i64 0, .int .i64 0, .slice none 0 0, .slice none 0 0, .int .i64 2, .int .i64 (1 + (2 * (rotate % 4))), .int .i64 0, .slice none 0 0] (⟨3, 0, 0, [], [], 2, 1 + (2 * (rotate % 4)), 0, []⟩ : Entry) 1 _ _ _ _ _ _ _ _ _ _ 0 _ _ _ _ _ S13.fr3.fr2.fr4.fr4.fr5.fr5.fr6 H0 ⟨(.slice none 0 0), (.slice none 0 0), (.slice none 0 0), rfl, (by dsimp only; omega), (by dsimp only; omega), (by dsimp only; omega), ⟨rfl, Ro.nil⟩, ⟨rfl, Ro.nil⟩, (by dsimp only; omega), ad, (by dsimp only; omega), ⟨rfl, RoX.nil⟩⟩ hg0 ht0 (plain_rights (by omega)) au rfl) ?_
  rintro _ w13 ⟨L0, s0, t0, I4, le4, rfl, h1, h2, S14⟩
  refine gl 51 rfl rfl rfl rfl _ rfl (dcF (r_not rfl) rfl) ?_
  refine g10 ?_
  refine vl _ rfl (r_lenX rfl (Q0.row (lT (lT (lT (lT (lT le0 le1) le2) le3) le4) S14.le)) U22) ?_
  refine g4 ?_
  refine EC_loop (fun m' E' w' => ∃ i : Nat, ∃ L : List Thing, ∃ s : Rpl, ∃ t : Rpl, ∃ J : Gh, m' = lst.length - i ∧ E' 63 = .int .i64 (i : Int) ∧ E' 6 = ptr b2 ∧ E' 8 = ptr b4 ∧ E' 12 = .func (.func 13) #[] [ptr b0, ptr b5, ptr b2, ptr b4].toArray ∧ E' 61 = v0 ∧ E' 62 = .int .i64 (lst.length : Int) ∧ (i ≤ lst.length) ∧ (Good L (keyAt ReplayReaders_w_x0.ks 0) (i + 1) s) ∧ (t = s.twin) ∧ Gh.le I4 J ∧ Sat w' J (Suite p0 L :: RplP (ptr b1) p0 s :: RplP (ptr b3) p0 t :: Blk b0 24 [p0] :: Blk b5 30 [v1] :: Blk b2 26 [(ptr b1)] :: Blk b4 26 [(ptr b3)] :: R)) _ ⟨0, L0, s0, t0, I4, rfl, rfl, rfl, rfl, rfl, rfl, rfl, Nat.zero_le _, h1, h2, (Gh.le_refl _), S14.fr3.fr3.fr3.fr3.fr6.fr6.fr6⟩ ?_
  rintro _ E0 w14 ⟨i, L, s, t, I5, rfl, e0, e1, e2, e3, e4, e5, hi, hg, htw, le5, S15⟩
  refine g6 ?_
  refine EC_if rfl (fun h3 => ?_) (fun h3 => ?_)
  refine g7 ?_
  refine vl (ptr (blkOf v0) (offOf v0 + ((i : Int) : Int).toNat * 1)) rfl (r_indexX (by exact e4) (Q0.row (lT (lT (lT (lT (lT (lT le0 le1) le2) le3) le4) le5) S15.le)) (by exact e0) (by omega) as' U22 (by kernel_rfl)) ?_
  obtain ⟨a0, ha0⟩ := get_some (l := lst) (j := ((i : Int) : Int).toNat) as'
  obtain ⟨cs0, hc0, he0⟩ := Q0.el ha0
  obtain ⟨rfl, r0⟩ := hc0
  refine vl _ rfl (r_load0 rfl (he0 _ (lT (lT (lT (lT (lT (lT le0 le1) le2) le3) le4) le5) S15.le)) U9 rfl) ?_
  refine g8 ?_
  refine vl _ rfl (r_lenS rfl U9) ?_
  refine g3 ?_
  refine EC_if rfl (fun h4 => ?_) (fun h4 => ?_)
  refine g12 ?_
  refine f1 Tryz.results3 ?_
  exact ⟨I5, (lT (lT (lT (lT (lT le0 le1) le2) le3) le4) le5), rfl, S15.dr0.dr0.dr0.dr0.dr0.dr0.dr0⟩
  refine g6 ?_
  refine yR (putL_c 1 0 ([110] : List UInt8) a0 _ _ _ S15 au au au au) ?_
  rintro _ w15 ⟨cs1, I6, le6, rfl, h5, S16⟩
  obtain ⟨v2, v3, v4, rfl, r1, r2, r3, ⟨o1, H1⟩, ⟨o2, H2⟩, r4, r5, r6, ⟨o3, H3⟩⟩ := h5
  refine g1 ?_
  refine EL_int ((i : Int) + 2) rfl (r_addi rfl rfl (by omega)) ?_
  intro x0 hx163
  refine EL_retw _ rfl rfl Tryz.func13 rfl nm13 rfl (RdBoth_c (entRC (putEn 1 0 ([110] : List UInt8) a0) v2 v3 v4) (putEn 1 0 ([110] : List UInt8) a0) x0 _ _ _ _ _ _ _ _ _ _ (i + 1) _ _ _ _ _ S16.fr2.fr2.fr2.fr6.fr6.fr6.fr6 (H0.up (lT (lT le4 le5) le6)) ⟨v2, v3, v4, rfl, ad, ad, ad, ⟨o1, H1⟩, ⟨o2, H2⟩, ad, ad, ad, ⟨o3, H3⟩⟩ hg htw (plain_put (by omega) (by omega) (by omega)) au (by omega)) ?_
  rintro _ w16 ⟨L2, s1, t1, I7, le7, rfl, h6, h7, S17⟩
  refine vl _ rfl (dcF (r_not rfl) rfl) ?_
  refine g7 ?_
  refine EL_int ((i : Int) + 1) rfl (r_addi (by exact e0) rfl (by omega)) ?_
  intro x1 hx180
  refine g3 ?_
  refine ⟨_, ?_, i + 1, L2, s1, t1, I7, rfl, (Eq.trans (show _ = Value.int .i64 x1 from rfl) (congrArg _ (by omega))), (by exact e1), (by exact e2), (by exact e3), (by exact e4), (by exact e5), by omega, h6, h7, (lT (lT le5 le6) le7), S17.fr3.fr3.fr3.fr3.fr6.fr6.fr6⟩
  first | omega | (simp; omega)
  refine g6 ?_
  refine yJ 22 (fun w' => Arr w' b2 26 [(ptr b1)] ∧ Arr w' b4 26 [(ptr b3)]) S15 ?_
  intro w17 S18
  refine yT 0 S18.le ⟨S18.a5, S18.a6⟩ ?_
  refine yT 2 S18.le ⟨S18.a5, S18.a6⟩ ?_
  refine y1 1 ?_
  refine yR (RpPol_c _ _ _ _ _ _ S18.fr1 (by first | exact hg.mlen | exact (hg.twin htw).mlen)) ?_
  rintro _ w18 ⟨cs2, I8, le8, rfl, h8, S19⟩
  obtain ⟨v5, rfl, r7, r8, ⟨o4, H4⟩⟩ := h8
  refine yn (lT le8 S19.le) ⟨S19.a5, S19.a6⟩ ?_
  refine yu le8 ?_
  refine y1 3 ?_
  refine yR (RpPol_c _ _ _ _ _ _ S19.fr2 (by first | exact hg.mlen | exact (hg.twin htw).mlen)) ?_
  rintro _ w19 ⟨cs3, I9, le9, rfl, h9, S20⟩
  obtain ⟨v6, rfl, r9, r10, ⟨o5, H5⟩⟩ := h9
  refine yn (lT le9 S20.le) ⟨S20.a5, S20.a6⟩ ?_
  refine yu le9 ?_
  refine y1 4 ?_
  refine yR (members_c (polRC s.pol v5) s.pol (polRC t.pol v6) t.pol _ _ _ S20 ⟨v5, rfl, ad, ad, ⟨o4, (H4.up le9)⟩⟩ ⟨v6, rfl, ad, ad, ⟨o5, H5⟩⟩) ?_
  rintro _ w20 ⟨rfl, S21⟩
  refine yn S21.le ⟨S21.a5, S21.a6⟩ ?_
  refine jT 5 rfl (by kernel_rfl) (.bool true) rfl (fun _ hw ht => r_move (Eq.trans (show _ = Value.bool (membS s.pol t.pol) from rfl) (congrArg Value.bool (show (membS s.pol t.pol) = true from (memb_same (by rw [htw])))))) ⟨S21.le, fun h => ⟨S21.a5, S21.a6⟩⟩ ?_
  refine yg 6 (yt S21.le ⟨S21.a5, S21.a6⟩) ?_
  refine yg 9 (yt S21.le ⟨S21.a5, S21.a6⟩) ?_
  refine y1 7 ?_
  refine yG (RpDocs_c _ _ _ _ _ _ S21.fr1) ?_
  rintro _ w21 ⟨q0, rfl, S22⟩
  refine yn S22.le ⟨S22.a6, S22.a7⟩ ?_
  refine y1 8 ?_
  refine yG (DLen_c _ _ _ _ _ S22) ?_
  rintro _ w22 ⟨rfl, S23⟩
  refine yn S23.le ⟨S23.a6, S23.a7⟩ ?_
  refine y1 10 ?_
  refine yG (RpDocs_c _ _ _ _ _ _ S23.fr2) ?_
  rintro _ w23 ⟨q1, rfl, S24⟩
  refine yn S24.le ⟨S24.a7, S24.a8⟩ ?_
  refine y1 11 ?_
  refine yG (DLen_c _ _ _ _ _ S24) ?_
  rintro _ w24 ⟨rfl, S25⟩
  refine yn S25.le ⟨S25.a7, S25.a8⟩ ?_
  refine jG 12 rfl (by kernel_rfl) 84 rfl rfl rfl rfl (.bool true) rfl (fun _ hw ht => r_dec (show (decide ((s.docs.length : Int) = (t.docs.length : Int))) = true from by rw [htw]; simp) (r_eql rfl rfl)) ⟨S25.le, fun h => ⟨S25.a7, S25.a8⟩⟩ ?_
  refine yT 13 S25.le ⟨S25.a7, S25.a8⟩ ?_
  refine yT 14 S25.le ⟨S25.a7, S25.a8⟩ ?_
  refine yg 15 (yt S25.le ⟨S25.a7, S25.a8⟩) ?_
  refine yg 20 (yt S25.le ⟨S25.a7, S25.a8⟩) ?_
  refine y1 16 ?_
  refine yG (RpChain_c _ _ _ _ _ _ S25.fr3) ?_
  rintro _ w25 ⟨b6, sv0, cv0, vm0, dv0, rv0, rfl, h10, h11, h12, h13, h14, H6, H7, S26⟩
  obtain rfl : b1 = b6 := by have hq := h10; injection hq with hq; injection hq with hq; injection hq
  refine yn S26.le ⟨S26.a10, S26.a11⟩ ?_
  refine y1 17 ?_
  refine yG (Head_c _ _ _ _ _ _ S26.fr1 (by first | (have := hg.lk; omega) | (have := (hg.twin htw).lk; omega))) ?_
  rintro _ w26 ⟨cs4, I10, le10, rfl, h15, S27⟩
  obtain ⟨v7, rfl, r11, ⟨o6, H8⟩⟩ := h15
  have S28 : Sat _ _ (RplP (ptr b1) p0 s :: _) := RplP.cls (s := s) (sv := sv0) (cv := cv0) (vm := vm0) (dv := dv0) (rv := rv0) h11 h12 h13 h14 (H6.up le10) (H7.up le10) S27.fr3.fr3.fr2.fr3
  refine yn (lT le10 S28.le) ⟨S28.a7, S28.a8⟩ ?_
  refine yu le10 ?_
  refine EJ_gfloat 18 rfl (by kernel_rfl) (by kernel_rfl) (by kernel_rfl) rfl 93 rfl rfl rfl rfl v7 rfl (fun _ hw => r_field rfl U52 rfl U30 rfl rfl) ⟨S28.le, fun h => ⟨S28.a7, S28.a8⟩⟩ ?_
  refine EJ_gfloat 19 rfl (by kernel_rfl) (by kernel_rfl) (by kernel_rfl) rfl 93 rfl rfl rfl rfl (.string (str ((atV s.ch (s.ch.links.length : Int)).sum))) rfl (fun _ hw => r_str rfl (H8 _ hw) U30 U5 U9) ⟨S28.le, fun h => ⟨S28.a7, S28.a8⟩⟩ ?_
  refine y1 21 ?_
  refine yG (RpChain_c _ _ _ _ _ _ S28.fr2) ?_
  rintro _ w27 ⟨b7, sv1, cv1, vm1, dv1, rv1, rfl, h16, h17, h18, h19, h20, H9, H10, S29⟩
  obtain rfl : b3 = b7 := by have hq := h16; injection hq with hq; injection hq with hq; injection hq
  refine yn S29.le ⟨S29.a10, S29.a11⟩ ?_
  refine y1 22 ?_
  refine yG (Head_c _ _ _ _ _ _ S29.fr1 (by first | (have := hg.lk; omega) | (have := (hg.twin htw).lk; omega))) ?_
  rintro _ w28 ⟨cs5, I11, le11, rfl, h21, S30⟩
  obtain ⟨v8, rfl, r12, ⟨o7, H11⟩⟩ := h21
  have S31 : Sat _ _ (RplP (ptr b3) p0 t :: _) := RplP.cls (s := t) (sv := sv1) (cv := cv1) (vm := vm1) (dv := dv1) (rv := rv1) h17 h18 h19 h20 (H9.up le11) (H10.up le11) S30.fr3.fr3.fr2.fr3
  refine ym (lT le11 S31.le) ?_
  refine yu le11 ?_
  refine EJ_gfloat 23 rfl (by kernel_rfl) (by kernel_rfl) (by kernel_rfl) rfl 93 rfl rfl rfl rfl v8 rfl (fun _ hw => r_field rfl U52 rfl U30 rfl rfl) ⟨S31.le, fun h => by cases h⟩ ?_
  refine EJ_gfloat 24 rfl (by kernel_rfl) (by kernel_rfl) (by kernel_rfl) rfl 93 rfl rfl rfl rfl (.string (str ((atV t.ch (t.ch.links.length : Int)).sum))) rfl (fun _ hw => r_str rfl (H11 _ hw) U30 U5 U9) ⟨S31.le, fun h => by cases h⟩ ?_
  refine EJ_gfloat 25 rfl (by kernel_rfl) (by kernel_rfl) (by kernel_rfl) rfl 93 rfl rfl rfl rfl (.bool true) rfl (fun _ hw => r_dec (show (decide (((atV s.ch (s.ch.links.length : Int)).sum) = ((atV t.ch (t.ch.links.length : Int)).sum))) = true from by rw [htw]; simp) (r_eqls rfl rfl)) ⟨S31.le, fun h => by cases h⟩ ?_
  refine yf 26 S31.le ?_
  refine yf 27 S31.le ?_
  refine yd ?_
  refine g2 ?_
  refine f1 Tryz.results3 ?_
  exact ⟨I11, (lT (lT (lT (lT (lT (lT (lT (lT (lT le0 le1) le2) le3) le4) le5) le8) le9) le10) le11), rfl, S31.dr0.dr0.dr0.dr0.dr0.dr0.dr0.dr0.dr0⟩
theorem ReplayReaders_c (v0 : Value) (lst : (List (List UInt8))) (rotate : Int) (w : World) (H0 : RoX (gh w) v0 strR lst) (rrotate : -9223372036854775808 ≤ rotate ∧ rotate ≤ 9223372036854775807) : Ret Tryz.prog 3 [v0, .int .i64 rotate] w fun v w' => v = .bool true ∧ Below w.heap.size w w' :=
  (ReplayReaders_w v0 lst rotate (gh w) [] w (Sat.start w) H0 rrotate).mono fun v w' h => by obtain ⟨J, le, e, S⟩ := h; exact ⟨e.symm, S.fin le⟩
theorem own : ownKnob Tryz.prog.godebug = none := by kernel_rfl
theorem laidOut : laidOutB Tryz.prog = true := by kernel_rfl
set_option maxRecDepth 100000 in
theorem lifted (os : Os) (started : os.Started) (H : Type) (enc : TypeId × Value → H) :
    ReturnsInHanded {} Tryz.checked os 3 .any (Rows.replayReadersSpec.pre6 enc Tryz.prog Tryz.f3 Rows.replayReadersRow.domain false) (Rows.replayReadersSpec.post enc Tryz.prog Tryz.f3 false true false false) := by
  refine returnsInHanded_of_change (C := Tryz.checked) own started (by kernel_rfl) Tryz.func3
    (ChangeSpec.witness6 (enc := enc) (C := Tryz.checked) false ⟨#[], #[.slice none 0 0, .int .i64 0], []⟩ 8 (by kernel_rfl) (by kernel_rfl) (by kernel_rfl) (by kernel_rfl)) ?_
  intro W base args ds gs before hval0 hW hcnd _
  have hval : ∀ (j : Nat) t v, Tryz.f3.params[j]? = some t → args[j]? = some v → Value.okWide Tryz.prog W .any base t v := hval0
  have hW' := hW
  obtain ⟨p, q, hA0, hV, rfl, hfz, hnd⟩ := hW
  have hA : DataW.TrodAll enc Tryz.prog W 0 (fun _ => true) true Tryz.f3.params.toList args.toList ds p := hA0
  rw [Tryz.params3] at hA hval
  obtain ⟨v0, vs0, d0, ds0, p0, q0, hargs, rfl, rfl, h0, r0⟩ := trodAll_cons hA
  obtain ⟨v1, vs1, d1, ds1, p1, q1, rfl, rfl, rfl, h1, r1⟩ := trodAll_cons r0
  obtain ⟨rfl, rfl, rfl⟩ := trodAll_nil r1
  obtain rfl : args = #[v0, v1] := by cases args; simp_all
  obtain ⟨rfl, rfl⟩ := trodVars_none hV
  have k0 := h0
  have lt0 : ∀ x ∈ p0, x.block < W.heap.size := by obtain ⟨m, hm⟩ := k0; exact DataW.trod_lt m _ _ _ hm
  obtain ⟨a0, len0, cap0, rfl⟩ := okWide_slice Tryz.underlying22 (hval 0 22 v0 rfl rfl)
  obtain ⟨b0, H0⟩ : ∃ l, RoX (gh W) (.slice a0 len0 cap0) strR l := by
    obtain ⟨fuel, hf⟩ := h0
    obtain ⟨l, v, hv, _, H⟩ := (Opn.list (τ := strR) Tryz.underlying22 (by kernel_rfl) (by decide) (Opn.str Tryz.underlying9)) _ W _ _ _ _ _ hf
    simp [Value.cells] at hv
    subst hv
    exact ⟨l, H⟩
  have k1 := h1
  have lt1 : ∀ x ∈ p1, x.block < W.heap.size := by obtain ⟨m, hm⟩ := k1; exact DataW.trod_lt m _ _ _ hm
  obtain ⟨a1, rfl, rfl, rfl, w1⟩ := open_int Tryz.underlying3 (hval 1 3 v1 rfl rfl) h1
  clear hA0 hval0
  refine Calls.mono (ReplayReaders_c (.slice a0 len0 cap0) b0 a1 W H0 (rng_i64 w1)) fun e W' ⟨v', he, hv, bel⟩ => ?_
  subst he
  subst hv
  exact ⟨_, rfl, _, _, _, [], _, [], hW', trodAll_mk1 (shut_bool Tryz.underlying4 _), (trodAll_cons_mk (Below.trod laidOut (by kernel_rfl) (of_decide_eq_true (by kernel_rfl)) k0 bel lt0) (trodAll_cons_mk (Below.trod laidOut (by kernel_rfl) (of_decide_eq_true (by kernel_rfl)) k1 bel lt1) trodAll_mk0)), rfl, bel.frame _, fun h => by cases h⟩
theorem over : Rows.replayReadersRow.holds Tryz.pinned (OpenSpec.ofChange Rows.replayReadersSpec) :=
  OpenClaim.holds_of_wide 3 Tryz.f3 rfl rfl rfl rfl rfl rfl rfl ⟨rfl, rfl, rfl, rfl, rfl⟩ rfl rfl rfl rfl rfl (by kernel_rfl) Tryz.func3 (by kernel_rfl)
    (of_decide_eq_true (by kernel_rfl)) (by unfold Func.isWrapper; first | (rw [if_pos (by decide +kernel)]; kernel_rfl) | (rw [if_neg (by decide +kernel)]; exact ⟨rfl, rfl⟩))
    (fun os started H enc _ => lifted os started H enc)
end Go.Proofs.YtmalblpdkpjbcaaGreat.replayReaders
namespace Go.Proofs.YtmalblpdkpjbcaaGreat
theorem ReplayReaders_holds : Rows.ReplayReadersSaid := replayReaders.over
end Go.Proofs.YtmalblpdkpjbcaaGreat
