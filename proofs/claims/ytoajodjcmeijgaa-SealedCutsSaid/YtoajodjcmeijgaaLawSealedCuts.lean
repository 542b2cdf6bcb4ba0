/-
  A record's bytes that are cut off, or have anything behind them, are none.
  Its conditions: none: whatever the input, in whatever memory.
-/
import Derived.Test.YtoajodjcmeijgaaRows
import Derived.Test.YtoajodjcmeijgaaAnc
import Derived.Test.YtoajodjcmeijgaaRecLaw
import Derived.ProofKit
import Derived.OpenShut
import Derived.ShutString
import Derived.ChangeOld
set_option linter.unusedVariables false
set_option linter.unusedSimpArgs false
namespace Go.Proofs.Ytoajodjcmeijgaa.sealedCuts
open Go.ChangeShapes Go.WideShapes Go.ChangeAt Go.RowKit Go.Ecal
open Go.ChangeMaps (open_string shut_string)
set_option maxRecDepth 100000 in
theorem opn_27 : Opn Try.prog 27 recR := fun enc w sp hd fuel cs x h => by
  obtain ⟨xs, n, _, _, hl, hxl, hf⟩ := DataW.trod_struct Try.underlying27 h
  have hlen : cs.length = 5 := hl.trans (by kernel_rfl)
  obtain ⟨c0, t0, rfl, l0⟩ := cons_of_len hlen
  obtain ⟨c1, t1, rfl, l1⟩ := cons_of_len l0
  obtain ⟨c2, t2, rfl, l2⟩ := cons_of_len l1
  obtain ⟨c3, t3, rfl, l3⟩ := cons_of_len l2
  obtain ⟨c4, t4, rfl, l4⟩ := cons_of_len l3
  obtain rfl := List.eq_nil_of_length_eq_zero l4
  have e0 : DataW.trod enc Try.prog w 0 sp hd n 3 [c0] = xs[0]? := Opn.part hf rfl rfl rfl (k := 1) (by kernel_rfl) rfl
  obtain ⟨a0, h0⟩ := Opn.field (Opn.int Try.underlying3) (by rw [hxl]; decide) e0
  have e1 : DataW.trod enc Try.prog w 0 sp hd n 3 [c1] = xs[1]? := Opn.part hf rfl rfl rfl (k := 1) (by kernel_rfl) rfl
  obtain ⟨a1, h1⟩ := Opn.field (Opn.int Try.underlying3) (by rw [hxl]; decide) e1
  have e2 : DataW.trod enc Try.prog w 0 sp hd n 3 [c2] = xs[2]? := Opn.part hf rfl rfl rfl (k := 1) (by kernel_rfl) rfl
  obtain ⟨a2, h2⟩ := Opn.field (Opn.int Try.underlying3) (by rw [hxl]; decide) e2
  have e3 : DataW.trod enc Try.prog w 0 sp hd n 3 [c3] = xs[3]? := Opn.part hf rfl rfl rfl (k := 1) (by kernel_rfl) rfl
  obtain ⟨a3, h3⟩ := Opn.field (Opn.int Try.underlying3) (by rw [hxl]; decide) e3
  have e4 : DataW.trod enc Try.prog w 0 sp hd n 22 [c4] = xs[4]? := Opn.part hf rfl rfl rfl (k := 1) (by kernel_rfl) rfl
  obtain ⟨a4, h4⟩ := Opn.field (Opn.bytes Try.underlying22 Try.underlying5 (by kernel_rfl)) (by rw [hxl]; decide) e4
  obtain ⟨q, rh0⟩ := h0; simp only [List.cons.injEq, and_true] at q; subst q
  obtain ⟨q, rh1⟩ := h1; simp only [List.cons.injEq, and_true] at q; subst q
  obtain ⟨q, rh2⟩ := h2; simp only [List.cons.injEq, and_true] at q; subst q
  obtain ⟨q, rh3⟩ := h3; simp only [List.cons.injEq, and_true] at q; subst q
  obtain ⟨vh4, q, oh4, rh4⟩ := h4; simp only [List.cons.injEq, and_true] at q; subst q
  exact ⟨⟨a0, a1, a2, a3, a4⟩, ⟨_, rfl, rh0, rh1, rh2, rh3, ⟨oh4, rh4⟩⟩⟩
set_option maxRecDepth 100000 in
set_option maxHeartbeats 4000000 in
theorem SealedCuts_w (c0 : List Value) (r : Record) (cut : Int) (v2 : Value) (more : List UInt8) (I : Gh) (R : List HP) (w : World) (S : Sat w I (R)) (Q0 : RoB I v2 more) (hr : recR.r I c0 r) (rcut : -9223372036854775808 ≤ cut ∧ cut ≤ 9223372036854775807) : Ret Try.prog 8 [.agg c0.toArray, .int .i64 cut, v2] w fun v w' => ∃ J : Gh, Gh.le I J ∧ .bool true = v ∧ Sat w' J (R) := by
  have lq0 := RoB.le Q0 S.le
  obtain ⟨v15, rfl, r11, r12, r13, r14, ⟨o16, H17⟩⟩ := hr
  refine ret_E Try.func8 rfl Try.ntmps8 (by simp) ?_
  refine EC_seq ?_
  refine EC_reg ?_
  refine EL_box [.int .i64 r.coll, .int .i64 r.epoch, .int .i64 r.writer, .int .i64 r.count, v15] rfl rfl rfl ?_
  intro b18 w19 k20 A21 B22 z23
  have S24 := S.newB B22 A21 k20
  refine EL_val (.bool false) w19 rfl (r_assign rfl) ?_
  refine EL_nil ?_
  refine thn_n ?_
  refine EC_seq ?_
  refine EC_seq ?_
  refine EC_reg ?_
  refine EL_ret _ rfl Try.func9 rfl nm9 rfl (anchor_c I _ _ S24) ?_
  rintro _ w25 ⟨I27, le28, rfl, S26⟩
  refine EL_val (.bool false) w25 rfl (r_dec (show (!true) = false from rfl) (r_not rfl)) ?_
  refine EL_nil ?_
  refine thn_n ?_
  refine EC_cond_false rfl ?_
  refine EC_skip ?_
  refine thn_n ?_
  refine EC_seq ?_
  refine EC_seq ?_
  refine EC_reg ?_
  refine EL_val (ptr b18 4) w25 rfl (r_fieldP (o := 0) (s := 1) rfl Try.underlying27 rfl (by kernel_rfl) (by decide) rfl) ?_
  refine EL_val v15 w25 rfl (r_loadA rfl (S26.arr 0 rfl) (u := v15) rfl Try.underlying22 rfl) ?_
  refine EL_val (.int .i64 (r.box.length : Int)) w25 rfl (lenB (r_len rfl (H17 _ (Gh.le_trans le28 S26.le)) Try.underlying22)) ?_
  refine EL_val (.bool (decide (2100 < (r.box.length : Int)))) w25 rfl (r_gtr rfl rfl) ?_
  refine EL_val (.bool (decide (2100 < (r.box.length : Int)))) w25 rfl (r_move rfl) ?_
  refine EL_gite 19 rfl rfl rfl (.int .i64 cut) rfl (fun g29 => r_move rfl) ?_
  refine EL_gite 19 rfl rfl rfl (.bool (decide (cut < 0))) rfl (fun g30 => r_lss (cond_of g30 rfl) rfl) ?_
  refine EL_val (.bool ((decide (2100 < (r.box.length : Int))) || (decide (cut < 0)))) w25 rfl (r_or rfl rfl rfl) ?_
  refine EL_val (.bool ((decide (2100 < (r.box.length : Int))) || (decide (cut < 0)))) w25 rfl (r_move rfl) ?_
  refine EL_gite 23 rfl rfl rfl v2 rfl (fun g31 => r_move rfl) ?_
  refine EL_gite 23 rfl rfl rfl (.int .i64 (more.length : Int)) rfl (fun g32 => lenB (r_len (cond_of g32 rfl) (Q0 _ (Gh.le_trans le28 S26.le)) Try.underlying22)) ?_
  refine EL_gite 23 rfl rfl rfl (.bool (decide (100 < (more.length : Int)))) rfl (fun g33 => r_gtr (cond_of g33 rfl) rfl) ?_
  refine EL_val (.bool (((decide (2100 < (r.box.length : Int))) || (decide (cut < 0))) || (decide (100 < (more.length : Int))))) w25 rfl (r_or rfl rfl rfl) ?_
  refine EL_nil ?_
  refine thn_n ?_
  refine EC_cond (t := ((decide (2100 < (r.box.length : Int))) || (decide (cut < 0))) || (decide (100 < (more.length : Int)))) rfl (fun h34 => ?_) (fun h34 => ?_)
  · refine EC_seq ?_
    refine EC_reg ?_
    refine EL_val (.bool true) w25 rfl (r_assign rfl) ?_
    refine EL_nil ?_
    refine thn_n ?_
    refine EC_ret ?_
    refine thn_r ?_
    refine fin1 Try.results8 (show _ = .bool true from rfl) ⟨_, rfl, ?_⟩
    have S35 := S26.dr0
    exact ⟨I27, le28, rfl, S35⟩
  · have hg : r.box.length ≤ 2100 ∧ 0 ≤ cut ∧ more.length ≤ 100 := by simp at h34; omega
    refine EC_skip ?_
    refine thn_n ?_
    refine EC_seq ?_
    refine EC_reg ?_
    refine EL_val (.agg ([.int .i64 r.coll, .int .i64 r.epoch, .int .i64 r.writer, .int .i64 r.count, v15]).toArray) w25 rfl (r_loadAll rfl (S26.arr 0 rfl) Try.underlying27 rfl (by kernel_rfl)) ?_
    refine EL_ret _ rfl Try.func29 rfl nm29 rfl (REnc_c [.int .i64 r.coll, .int .i64 r.epoch, .int .i64 r.writer, .int .i64 r.count, v15] r I27 _ _ S26 ⟨v15, rfl, (by first | assumption | omega | (dsimp only; omega)), (by first | assumption | omega | (dsimp only; omega)), (by first | assumption | omega | (dsimp only; omega)), (by first | assumption | omega | (dsimp only; omega)), ⟨o16, (H17.up le28)⟩⟩) ?_
    rintro _ w36 ⟨v38, I39, le40, rfl, S37⟩
    refine EL_val (.tuple #[v38, .int .i64 r.encE]) w36 rfl (r_move rfl) ?_
    refine EL_val v38 w36 rfl (r_extract rfl rfl) ?_
    refine EL_val (.int .i64 r.encE) w36 rfl (r_extract rfl rfl) ?_
    refine EL_val v38 w36 rfl (r_assign rfl) ?_
    refine EL_val (.int .i64 r.encE) w36 rfl (r_assign rfl) ?_
    refine EL_nil ?_
    refine thn_n ?_
    refine EC_seq ?_
    refine EC_seq ?_
    refine EC_reg ?_
    refine EL_val (.int .i64 r.encE) w36 rfl (r_move rfl) ?_
    refine EL_val (.bool (decide (r.encE ≠ 0))) w36 rfl (r_neq rfl rfl) ?_
    refine EL_nil ?_
    refine thn_n ?_
    refine EC_if (p := r.encE ≠ 0) rfl (fun h41 => ?_) (fun h41 => ?_)
    · refine EC_seq ?_
      refine EC_reg ?_
      refine EL_val (.bool true) w36 rfl (r_assign rfl) ?_
      refine EL_nil ?_
      refine thn_n ?_
      refine EC_ret ?_
      refine thn_r ?_
      refine fin1 Try.results8 (show _ = .bool true from rfl) ⟨_, rfl, ?_⟩
      have S42 := S37.dr0
      have S43 := S42.dr0
      exact ⟨I39, (Gh.le_trans le28 le40), rfl, S43⟩
    · have hrt : r.right = true := encE_iff.1 (by simpa using h41)
      have hel := enc_len hrt
      have hbx := right_box hrt
      refine EC_skip ?_
      refine thn_n ?_
      refine EC_seq ?_
      refine EC_reg ?_
      refine EL_val v38 w36 rfl (r_move rfl) ?_
      refine EL_val (.int .i64 cut) w36 rfl (r_move rfl) ?_
      refine EL_val v38 w36 rfl (r_move rfl) ?_
      refine EL_val (.int .i64 (r.encB.length : Int)) w36 rfl (lenB (r_len rfl (own_row (S37.own 0 rfl)) Try.underlying22)) ?_
      refine EL_int (cut % (r.encB.length : Int)) rfl (r_remi rfl rfl (by omega) (by omega)) ?_
      intro x44 hx44
      have m45 := Int.emod_nonneg cut (b := (r.encB.length : Int)) (by omega)
      have m46 := Int.emod_lt_of_pos cut (b := (r.encB.length : Int)) (by omega)
      obtain ⟨I47, le48, S49, H50⟩ := S37.fb0
      refine EL_val (cutV v38 0 ((x44 : Int).toNat)) w36 rfl (r_slice rfl (H50 _ S49.le) Try.underlying22 (by kernel_rfl) 0 ((x44 : Int).toNat) (by first | omega | (simp; omega) | simp) (by first | omega | (simp; omega) | simp) (.inl ⟨rfl, rfl⟩) (.inr ⟨_, _, rfl, (show _ = Value.int .i64 ((x44 : Int).toNat : Int) from by rw [Int.toNat_of_nonneg (by omega)]; exact rfl)⟩)) ?_
      have H51 : RoB I47 (cutV v38 0 ((x44 : Int).toNat)) (r.encB.take ((x44 : Int).toNat)) := rob_as (RoB.cut H50 0 ((x44 : Int).toNat) (by first | omega | (simp; omega) | simp) (by first | omega | (simp; omega) | simp)) (by simp)
      have L52 : (r.encB.take ((x44 : Int).toNat)).length = ((x44 : Int).toNat) - 0 := by first | (simp; done) | (simp; omega)
      refine EL_ret _ rfl Try.func32 rfl nm32 rfl (RDec_c (cutV v38 0 ((x44 : Int).toNat)) (r.encB.take ((x44 : Int).toNat)) I47 _ _ S49 H51 (by simp; omega)) ?_
      rintro _ w53 ⟨cs55, I56, le57, rfl, h58, S54⟩
      obtain ⟨v63, rfl, r59, r60, r61, r62, ⟨o64, H65⟩⟩ := h58
      refine EL_val (.tuple #[.agg ([.int .i64 ((recV (r.encB.take ((x44 : Int).toNat))).coll), .int .i64 ((recV (r.encB.take ((x44 : Int).toNat))).epoch), .int .i64 ((recV (r.encB.take ((x44 : Int).toNat))).writer), .int .i64 ((recV (r.encB.take ((x44 : Int).toNat))).count), v63]).toArray, .int .i64 (recE (r.encB.take ((x44 : Int).toNat)))]) w53 rfl (r_move rfl) ?_
      refine EL_val (.agg ([.int .i64 ((recV (r.encB.take ((x44 : Int).toNat))).coll), .int .i64 ((recV (r.encB.take ((x44 : Int).toNat))).epoch), .int .i64 ((recV (r.encB.take ((x44 : Int).toNat))).writer), .int .i64 ((recV (r.encB.take ((x44 : Int).toNat))).count), v63]).toArray) w53 rfl (r_extract rfl rfl) ?_
      refine EL_val (.int .i64 (recE (r.encB.take ((x44 : Int).toNat)))) w53 rfl (r_extract rfl rfl) ?_
      refine EL_alloc (z := .agg #[.int .i64 0, .int .i64 0, .int .i64 0, .int .i64 0, .slice none 0 0]) [.int .i64 0, .int .i64 0, .int .i64 0, .int .i64 0, .slice none 0 0] rfl (by kernel_rfl) rfl ?_
      intro b66 w67 k68 A69 B70 z71
      have S72 := S54.newB B70 A69 k68
      refine EL_storeAll (v := .agg ([.int .i64 ((recV (r.encB.take ((x44 : Int).toNat))).coll), .int .i64 ((recV (r.encB.take ((x44 : Int).toNat))).epoch), .int .i64 ((recV (r.encB.take ((x44 : Int).toNat))).writer), .int .i64 ((recV (r.encB.take ((x44 : Int).toNat))).count), v63]).toArray) (cs' := ([.int .i64 ((recV (r.encB.take ((x44 : Int).toNat))).coll), .int .i64 ((recV (r.encB.take ((x44 : Int).toNat))).epoch), .int .i64 ((recV (r.encB.take ((x44 : Int).toNat))).writer), .int .i64 ((recV (r.encB.take ((x44 : Int).toNat))).count), v63]).toArray) rfl rfl rfl (S72.arr 0 rfl) rfl (by kernel_rfl) (ones_cons rfl (ones_cons rfl (ones_cons rfl (ones_cons rfl (ones_cons o64 (fun _ h => nomatch h)))))) ?_
      intro w73 A74 K75 z76
      have S77 := S72.wr0 (ds := [.int .i64 ((recV (r.encB.take ((x44 : Int).toNat))).coll), .int .i64 ((recV (r.encB.take ((x44 : Int).toNat))).epoch), .int .i64 ((recV (r.encB.take ((x44 : Int).toNat))).writer), .int .i64 ((recV (r.encB.take ((x44 : Int).toNat))).count), v63]) K75 A74
      refine EL_val (.int .i64 (recE (r.encB.take ((x44 : Int).toNat)))) w73 rfl (r_assign rfl) ?_
      refine EL_nil ?_
      refine thn_n ?_
      refine EC_seq ?_
      refine EC_reg ?_
      refine EL_lit w73.heap.size #[] elB rfl (by decide) rfl (Nat.le_refl _) (by kernel_rfl) ?_
      intro v78 w79 O80 B81 k82 z83
      have S84 : Sat w79 I56 (OwnB v78 ([] : List UInt8) :: Blk b66 27 [.int .i64 ((recV (r.encB.take ((x44 : Int).toNat))).coll), .int .i64 ((recV (r.encB.take ((x44 : Int).toNat))).epoch), .int .i64 ((recV (r.encB.take ((x44 : Int).toNat))).writer), .int .i64 ((recV (r.encB.take ((x44 : Int).toNat))).count), v63] :: Blk b18 27 [.int .i64 r.coll, .int .i64 r.epoch, .int .i64 r.writer, .int .i64 r.count, v15] :: R) := S77.newO B81 (own_eq (l := ([] : List UInt8)) O80 (by simp [bof_val, byt]))
      refine EL_val v38 w79 rfl (r_move rfl) ?_
      refine EL_append (v := v78) (xs := ([] : List UInt8).map byt) (ys := r.encB.map byt) 0 elB rfl rfl rfl (own_len (S84.own 0 rfl)) (H50 _ (Gh.le_trans le57 S84.le)) (byt_one _) (by first | (simp only [List.length_map, List.length_nil, List.length_append]; omega) | (simp; done) | (simp; omega)) (by decide) (Nat.zero_le _) ?_
      intro v85 w86 O87 G88 A89
      have S90 := S84.gb0 G88 (own_app O87) A89
      refine EL_val v2 w86 rfl (r_move rfl) ?_
      refine EL_append (v := v85) (xs := (([] : List UInt8) ++ r.encB).map byt) (ys := more.map byt) 0 elB rfl rfl rfl (own_len (S90.own 0 rfl)) (Q0 _ (Gh.le_trans (Gh.le_trans (Gh.le_trans (Gh.le_trans le28 le40) le48) le57) S90.le)) (byt_one _) (by first | (simp only [List.length_map, List.length_nil, List.length_append]; omega) | (simp; done) | (simp; omega)) (by decide) (Nat.zero_le _) ?_
      intro v91 w92 O93 G94 A95
      have S96 := S90.gb0 G94 (own_app O93) A95
      obtain ⟨I97, le98, S99, H100⟩ := S96.fb0
      refine EL_ret _ rfl Try.func32 rfl nm32 rfl (RDec_c v91 ((([] : List UInt8) ++ r.encB) ++ more) I97 _ _ S99 H100 (by simp; omega)) ?_
      rintro _ w101 ⟨cs103, I104, le105, rfl, h106, S102⟩
      obtain ⟨v111, rfl, r107, r108, r109, r110, ⟨o112, H113⟩⟩ := h106
      refine EL_val (.tuple #[.agg ([.int .i64 ((recV ((([] : List UInt8) ++ r.encB) ++ more)).coll), .int .i64 ((recV ((([] : List UInt8) ++ r.encB) ++ more)).epoch), .int .i64 ((recV ((([] : List UInt8) ++ r.encB) ++ more)).writer), .int .i64 ((recV ((([] : List UInt8) ++ r.encB) ++ more)).count), v111]).toArray, .int .i64 (recE ((([] : List UInt8) ++ r.encB) ++ more))]) w101 rfl (r_move rfl) ?_
      refine EL_val (.agg ([.int .i64 ((recV ((([] : List UInt8) ++ r.encB) ++ more)).coll), .int .i64 ((recV ((([] : List UInt8) ++ r.encB) ++ more)).epoch), .int .i64 ((recV ((([] : List UInt8) ++ r.encB) ++ more)).writer), .int .i64 ((recV ((([] : List UInt8) ++ r.encB) ++ more)).count), v111]).toArray) w101 rfl (r_extract rfl rfl) ?_
      refine EL_val (.int .i64 (recE ((([] : List UInt8) ++ r.encB) ++ more))) w101 rfl (r_extract rfl rfl) ?_
      refine EL_alloc (z := .agg #[.int .i64 0, .int .i64 0, .int .i64 0, .int .i64 0, .slice none 0 0]) [.int .i64 0, .int .i64 0, .int .i64 0, .int .i64 0, .slice none 0 0] rfl (by kernel_rfl) rfl ?_
      intro b114 w115 k116 A117 B118 z119
      have S120 := S102.newB B118 A117 k116
      refine EL_storeAll (v := .agg ([.int .i64 ((recV ((([] : List UInt8) ++ r.encB) ++ more)).coll), .int .i64 ((recV ((([] : List UInt8) ++ r.encB) ++ more)).epoch), .int .i64 ((recV ((([] : List UInt8) ++ r.encB) ++ more)).writer), .int .i64 ((recV ((([] : List UInt8) ++ r.encB) ++ more)).count), v111]).toArray) (cs' := ([.int .i64 ((recV ((([] : List UInt8) ++ r.encB) ++ more)).coll), .int .i64 ((recV ((([] : List UInt8) ++ r.encB) ++ more)).epoch), .int .i64 ((recV ((([] : List UInt8) ++ r.encB) ++ more)).writer), .int .i64 ((recV ((([] : List UInt8) ++ r.encB) ++ more)).count), v111]).toArray) rfl rfl rfl (S120.arr 0 rfl) rfl (by kernel_rfl) (ones_cons rfl (ones_cons rfl (ones_cons rfl (ones_cons rfl (ones_cons o112 (fun _ h => nomatch h)))))) ?_
      intro w121 A122 K123 z124
      have S125 := S120.wr0 (ds := [.int .i64 ((recV ((([] : List UInt8) ++ r.encB) ++ more)).coll), .int .i64 ((recV ((([] : List UInt8) ++ r.encB) ++ more)).epoch), .int .i64 ((recV ((([] : List UInt8) ++ r.encB) ++ more)).writer), .int .i64 ((recV ((([] : List UInt8) ++ r.encB) ++ more)).count), v111]) K123 A122
      refine EL_val (.int .i64 (recE ((([] : List UInt8) ++ r.encB) ++ more))) w121 rfl (r_assign rfl) ?_
      refine EL_nil ?_
      refine thn_n ?_
      refine EC_seq ?_
      refine EC_reg ?_
      refine EL_val (.int .i64 (recE (r.encB.take ((x44 : Int).toNat)))) w121 rfl (r_move rfl) ?_
      refine EL_val (.bool true) w121 rfl (r_dec (show (decide ((recE (r.encB.take ((x44 : Int).toNat))) = 10)) = true from cuts1 hrt (by omega)) (r_eql rfl rfl)) ?_
      refine EL_val (.bool true) w121 rfl (r_move rfl) ?_
      refine EL_gval 56 rfl rfl rfl rfl (.int .i64 (recE ((([] : List UInt8) ++ r.encB) ++ more))) w121 rfl (r_move rfl) ?_
      refine EL_gval 56 rfl rfl rfl rfl (.bool (decide ((recE ((([] : List UInt8) ++ r.encB) ++ more)) = 0))) w121 rfl (r_eql rfl rfl) ?_
      refine EL_gval 56 rfl rfl rfl rfl v2 w121 rfl (r_move rfl) ?_
      refine EL_gval 56 rfl rfl rfl rfl (.int .i64 (more.length : Int)) w121 rfl (lenB (r_len rfl (Q0 _ (Gh.le_trans (Gh.le_trans (Gh.le_trans (Gh.le_trans (Gh.le_trans (Gh.le_trans le28 le40) le48) le57) le98) le105) S125.le)) Try.underlying22)) ?_
      refine EL_gval 56 rfl rfl rfl rfl (.bool (decide ((more.length : Int) = 0))) w121 rfl (r_eql rfl rfl) ?_
      refine EL_gval 56 rfl rfl rfl rfl (.bool true) w121 rfl (r_dec (show ((decide ((recE ((([] : List UInt8) ++ r.encB) ++ more)) = 0)) == (decide ((more.length : Int) = 0))) = true from cuts2 hrt) (r_eqlb rfl rfl Try.underlying4)) ?_
      refine EL_val (.bool true) w121 rfl (r_pickT rfl rfl) ?_
      refine EL_val (.bool true) w121 rfl (r_assign rfl) ?_
      refine EL_nil ?_
      refine thn_n ?_
      refine EC_ret ?_
      refine fin1 Try.results8 (show _ = .bool true from rfl) ⟨_, rfl, ?_⟩
      have S126 := S125.dr0
      have S127 := S126.dr0
      have S128 := S127.dr0
      exact ⟨I104, (Gh.le_trans (Gh.le_trans (Gh.le_trans (Gh.le_trans (Gh.le_trans le28 le40) le48) le57) le98) le105), rfl, S128⟩
theorem SealedCuts_c (c0 : List Value) (r : Record) (cut : Int) (v2 : Value) (more : List UInt8) (w : World) (H0 : recR.r (gh w) c0 r) (rcut : -9223372036854775808 ≤ cut ∧ cut ≤ 9223372036854775807) (H2 : Bs w v2 more) : Ret Try.prog 8 [.agg c0.toArray, .int .i64 cut, v2] w fun v w' => v = .bool true ∧ Below w.heap.size w w' :=
  (SealedCuts_w c0 r cut v2 more (gh w) [] w (Sat.start w) (Row.ro H2) H0 rcut).mono fun v w' h => by obtain ⟨J, le, e, S⟩ := h; exact ⟨e.symm, S.fin le⟩
theorem own : ownKnob Try.prog.godebug = none := by kernel_rfl
theorem laidOut : laidOutB Try.prog = true := by kernel_rfl
set_option maxRecDepth 100000 in
theorem lifted (os : Os) (started : os.Started) (H : Type) (enc : TypeId × Value → H) :
    ReturnsInHanded {} Try.checked os 8 .any (Rows.sealedCutsSpec.pre6 enc Try.prog Try.f8 Rows.sealedCutsRow.domain false) (Rows.sealedCutsSpec.post enc Try.prog Try.f8 false true false false) := by
  refine returnsInHanded_of_change (C := Try.checked) own started (by kernel_rfl) Try.func8
    (ChangeSpec.witness6 (enc := enc) (C := Try.checked) false ⟨#[], #[.agg #[.int .i64 0, .int .i64 0, .int .i64 0, .int .i64 0, .slice none 0 0], .int .i64 0, .slice none 0 0], []⟩ 8 (by kernel_rfl) (by kernel_rfl) (by kernel_rfl) (by kernel_rfl)) ?_
  intro W base args ds gs before hval0 hW hcnd _
  have hval : ∀ (j : Nat) t v, Try.f8.params[j]? = some t → args[j]? = some v → Value.okWide Try.prog W .any base t v := hval0
  have hW' := hW
  obtain ⟨p, q, hA0, hV, rfl, hfz, hnd⟩ := hW
  have hA : DataW.TrodAll enc Try.prog W 0 (fun _ => true) true Try.f8.params.toList args.toList ds p := hA0
  rw [Try.params8] at hA hval
  obtain ⟨v0, vs0, d0, ds0, p0, q0, hargs, rfl, rfl, h0, r0⟩ := trodAll_cons hA
  obtain ⟨v1, vs1, d1, ds1, p1, q1, rfl, rfl, rfl, h1, r1⟩ := trodAll_cons r0
  obtain ⟨v2, vs2, d2, ds2, p2, q2, rfl, rfl, rfl, h2, r2⟩ := trodAll_cons r1
  obtain ⟨rfl, rfl, rfl⟩ := trodAll_nil r2
  obtain rfl : args = #[v0, v1, v2] := by cases args; simp_all
  obtain ⟨rfl, rfl⟩ := trodVars_none hV
  have k0 := h0
  have lt0 : ∀ x ∈ p0, x.block < W.heap.size := by obtain ⟨m, hm⟩ := k0; exact DataW.trod_lt m _ _ _ hm
  obtain ⟨a0, rfl, _⟩ := okWide_struct Try.underlying27 (hval 0 27 v0 rfl rfl)
  obtain ⟨c0, rfl⟩ : ∃ c : List Value, a0 = c.toArray := ⟨a0.toList, by simp⟩
  obtain ⟨b0, H0⟩ : ∃ b, (recR).r (gh W) c0 b := by obtain ⟨fuel, hf⟩ := h0; exact opn_27 _ W _ _ _ _ _ hf
  have k1 := h1
  have lt1 : ∀ x ∈ p1, x.block < W.heap.size := by obtain ⟨m, hm⟩ := k1; exact DataW.trod_lt m _ _ _ hm
  obtain ⟨a1, rfl, rfl, rfl, w1⟩ := open_int Try.underlying3 (hval 1 3 v1 rfl rfl) h1
  have k2 := h2
  have lt2 : ∀ x ∈ p2, x.block < W.heap.size := by obtain ⟨m, hm⟩ := k2; exact DataW.trod_lt m _ _ _ hm
  obtain ⟨a2, len2, cap2, rfl⟩ := okWide_slice Try.underlying22 (hval 2 22 v2 rfl rfl)
  obtain ⟨b2, H2⟩ : ∃ l, Bs W (.slice a2 len2 cap2) l := by
    obtain ⟨fuel, hf⟩ := h2
    rcases open_ints Try.underlying22 Try.underlying5 (by kernel_rfl) hf with ⟨hcs, _⟩ | ⟨x, l, c, zs, hcs, _, hl, hm, hz, _, hcell, hwz⟩
    · simp [Value.cells] at hcs
      obtain ⟨rfl, rfl, rfl⟩ := hcs
      exact ⟨[], Row.nil W⟩
    · simp [Value.cells] at hcs
      obtain ⟨rfl, rfl, rfl⟩ := hcs
      exact bs_open hl hm (by simpa using hz) hcell hwz
  clear hA0 hval0
  refine Calls.mono (SealedCuts_c c0 b0 a1 (.slice a2 len2 cap2) b2 W H0 (rng_i64 w1) H2) fun e W' ⟨v', he, hv, bel⟩ => ?_
  subst he
  subst hv
  exact ⟨_, rfl, _, _, _, [], _, [], hW', trodAll_mk1 (shut_bool Try.underlying4 _), (trodAll_cons_mk (Below.trod laidOut (by kernel_rfl) (of_decide_eq_true (by kernel_rfl)) k0 bel lt0) (trodAll_cons_mk (Below.trod laidOut (by kernel_rfl) (of_decide_eq_true (by kernel_rfl)) k1 bel lt1) (trodAll_cons_mk (Below.trod laidOut (by kernel_rfl) (of_decide_eq_true (by kernel_rfl)) k2 bel lt2) trodAll_mk0))), rfl, bel.frame _, fun h => by cases h⟩
theorem over : Rows.sealedCutsRow.holds Try.pinned (OpenSpec.ofChange Rows.sealedCutsSpec) :=
  OpenClaim.holds_of_wide 8 Try.f8 rfl rfl rfl rfl rfl rfl rfl ⟨rfl, rfl, rfl, rfl, rfl⟩ rfl rfl rfl rfl rfl (by kernel_rfl) Try.func8 (by kernel_rfl)
    (of_decide_eq_true (by kernel_rfl)) (by unfold Func.isWrapper; first | (rw [if_pos (by decide +kernel)]; kernel_rfl) | (rw [if_neg (by decide +kernel)]; exact ⟨rfl, rfl⟩))
    (fun os started H enc _ => lifted os started H enc)
end Go.Proofs.Ytoajodjcmeijgaa.sealedCuts
namespace Go.Proofs.Ytoajodjcmeijgaa
theorem SealedCuts_holds : Rows.SealedCutsSaid := sealedCuts.over
end Go.Proofs.Ytoajodjcmeijgaa
