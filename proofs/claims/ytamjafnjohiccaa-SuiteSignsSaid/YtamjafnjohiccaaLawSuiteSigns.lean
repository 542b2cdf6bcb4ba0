/-
  Every play of a suite of signs is the document's list: sums, codes, keys, boxes, and what they open to.
  Its conditions: none: whatever the input, in whatever memory.
-/
import Derived.Test.YtamjafnjohiccaaRows
import Derived.Test.YtamjafnjohiccaaWalksS
import Derived.ProofKit
import Derived.OpenShut
import Derived.ShutString
import Derived.ChangeOld
set_option linter.unusedVariables false
set_option linter.unusedSimpArgs false
namespace Go.Proofs.Ytamjafnjohiccaa.suiteSigns
open Go.ChangeShapes Go.WideShapes Go.ChangeAt Go.RowKit Go.Ecal
open Go.ChangeMaps (open_string shut_string)
set_option maxRecDepth 100000 in
set_option maxHeartbeats 4000000 in
theorem SuiteSigns_w (v0 : Value) (ops : (List LOp)) (I : Gh) (R : List HP) (w : World) (S : Sat w I (R)) (Q0 : RoX I v0 opR ops) : Ret Try.prog 8 [v0] w fun v w' => ∃ J : Gh, Gh.le I J ∧ .bool true = v ∧ Sat w' J (R) := by
  have lq0 := XRow.le (Q0.row S.le)
  refine ret_E Try.func8 rfl Try.ntmps8 (by simp) ?_
  refine EC_seq ?_
  refine EC_reg ?_
  refine EL_val (.bool false) w rfl (r_assign rfl) ?_
  refine EL_nil ?_
  refine thn_n ?_
  refine EC_seq ?_
  refine EC_seq ?_
  refine EC_reg ?_
  refine EL_ret _ rfl Try.func10 rfl nm10 rfl (anchor_c I _ _ S) ?_
  rintro _ w11 ⟨I13, le14, rfl, S12⟩
  refine EL_val (.bool false) w11 rfl (r_dec (show (!true) = false from rfl) (r_not rfl)) ?_
  refine EL_nil ?_
  refine thn_n ?_
  refine EC_cond_false rfl ?_
  refine EC_skip ?_
  refine thn_n ?_
  refine EC_seq ?_
  refine EC_seq ?_
  refine EC_reg ?_
  refine EL_val v0 w11 rfl (r_move rfl) ?_
  refine EL_ret _ rfl Try.func19 rfl nm19 rfl (small_c v0 ops 60 I13 _ _ S12 (Q0.up le14) (by first | assumption | omega | (simp; done) | (simp; omega))) ?_
  rintro _ w15 ⟨rfl, S16⟩
  refine EL_val (.bool (!(smallS ops 60))) w15 rfl (r_not rfl) ?_
  refine EL_nil ?_
  refine thn_n ?_
  refine EC_cond (t := !(smallS ops 60)) rfl (fun h17 => ?_) (fun h17 => ?_)
  · refine EC_seq ?_
    refine EC_reg ?_
    refine EL_val (.bool true) w15 rfl (r_assign rfl) ?_
    refine EL_nil ?_
    refine thn_n ?_
    refine EC_ret ?_
    refine thn_r ?_
    refine fin1 Try.results8 (show _ = .bool true from rfl) ⟨_, rfl, ?_⟩
    exact ⟨I13, le14, rfl, S16⟩
  · have hok0 := Bool.and_eq_true_iff.1 (show smallS ops 60 = true from (Bool.not_eq_false' _).mp h17)
    have hok := hok0.1
    have h60 : (ops.length : Int) ≤ 60 := of_decide_eq_true hok0.2
    refine EC_skip ?_
    refine thn_n ?_
    refine EC_seq ?_
    refine EC_reg ?_
    refine EL_ret _ rfl Try.func11 rfl nm11 rfl (Signs_c I13 _ _ S16) ?_
    rintro _ w18 ⟨p20, rfl, S19⟩
    refine EL_val (.agg ([.slice none 0 0]).toArray) w18 rfl (r_buildS (l := []) st_47 rfl (Eq.trans (show Instr.fill _ _ [] = _ from fill_end) (by kernel_rfl))) ?_
    refine EL_box [.slice none 0 0] rfl rfl rfl ?_
    intro b21 w22 k23 A24 B25 z26
    have S27 : Sat w22 I13 (Blk b21 47 [.slice none 0 0] :: Suite p20 ([] : List Thing) :: R) := S19.newB B25 A24 k23
    refine EL_val p20 w22 rfl (r_assign rfl) ?_
    refine EL_val (ptr b21) w22 rfl (r_assign rfl) ?_
    refine EL_nil ?_
    refine thn_n ?_
    refine EC_seq ?_
    refine EC_reg ?_
    refine EL_val (.slice none 0 0) w22 rfl (r_assign rfl) ?_
    refine EL_nil ?_
    refine thn_n ?_
    refine EC_seq ?_
    refine EC_seq ?_
    refine EC_reg ?_
    refine EL_val v0 w22 rfl (r_move rfl) ?_
    refine EL_val (.int .i64 (ops.length : Int)) w22 rfl (r_lenX rfl (Q0.row (Gh.le_trans le14 S27.le)) Try.underlying42) ?_
    refine EL_val (.int .i64 0) w22 rfl (r_move rfl) ?_
    refine EL_nil ?_
    refine thn_n ?_
    refine EC_block ?_
    have S28 : Sat w22 I13 (OwnX 72 thR (.slice none 0 0) [] :: Blk b21 47 [.slice none 0 0] :: Suite p20 ([] : List Thing) :: R) := OwnX.nil S27 72 thR
    have S29 : Sat w22 I13 (OwnX 72 thR (.slice none 0 0) [] :: Blk b21 47 [.slice none 0 0] :: Suite p20 ([] : List Thing) :: R) := S28.cons_front (i := 0) rfl
    have S30 : Sat w22 I13 (Blk b21 47 [.slice none 0 0] :: OwnX 72 thR (.slice none 0 0) [] :: Suite p20 ([] : List Thing) :: R) := S29.cons_front (i := 1) rfl
    have S31 : Sat w22 I13 (RefT (ptr b21) [] :: Suite p20 ([] : List Thing) :: R) := RefT.cls S30
    have S32 : Sat w22 I13 (OwnX 22 bytesR (.slice none 0 0) [] :: RefT (ptr b21) [] :: Suite p20 ([] : List Thing) :: R) := OwnX.nil S31 22 bytesR
    have S33 : Sat w22 I13 (RefT (ptr b21) [] :: OwnX 22 bytesR (.slice none 0 0) [] :: Suite p20 ([] : List Thing) :: R) := S32.cons_front (i := 1) rfl
    have S34 : Sat w22 I13 (Suite p20 ([] : List Thing) :: RefT (ptr b21) [] :: OwnX 22 bytesR (.slice none 0 0) [] :: R) := S33.cons_front (i := 2) rfl
    have S35 : Sat w22 I13 (OwnX 22 bytesR (.slice none 0 0) [] :: Suite p20 ([] : List Thing) :: RefT (ptr b21) [] :: R) := S34.cons_front (i := 2) rfl
    refine EC_loop (fun m' E' w' => ∃ j : Nat, ∃ L : List Thing, ∃ tv : Value, ∃ tl : List (List UInt8), ∃ J : Gh, m' = ops.length - j ∧ E' 22 = .int .i64 (j : Int) ∧ E' 5 = tv ∧ E' 3 = p20 ∧ E' 4 = ptr b21 ∧ E' 20 = v0 ∧ E' 21 = .int .i64 (ops.length : Int) ∧ (j ≤ ops.length) ∧ (Plain L) ∧ (L.length ≤ j) ∧ (Texts 300 L) ∧ (∀ x ∈ tl, x.length ≤ 300) ∧ (tl.length ≤ j) ∧ Gh.le I13 J ∧ Sat w' J (OwnX 22 bytesR tv tl :: Suite p20 L :: RefT (ptr b21) L :: R)) _ ⟨0, [], .slice none 0 0, [], I13, rfl, rfl, rfl, rfl, rfl, rfl, rfl, Nat.zero_le _, Plain.nil, by simp, Texts.nil, (fun x h => by cases h), by simp, (Gh.le_refl _), S35⟩ ?_
    rintro _ E36 w37 ⟨j, L, tv, tl, I38, rfl, e39, e40, e41, e42, e43, e44, hj, hPl, hLl, hTx, hTl, htl, le45, S46⟩
    refine EC_seq ?_
    refine EC_reg ?_
    refine EL_val (.bool (decide ((j : Int) < (ops.length : Int)))) w37 rfl (r_lss (by exact e39) (by exact e44)) ?_
    refine EL_nil ?_
    refine thn_n ?_
    refine EC_seq ?_
    refine EC_if (p := (j : Int) < (ops.length : Int)) rfl (fun h47 => ?_) (fun h47 => ?_)
    · refine EC_skip ?_
      refine thn_n ?_
      refine EC_seq ?_
      refine EC_block ?_
      refine EC_seq ?_
      refine EC_reg ?_
      refine EL_val (ptr (blkOf v0) (offOf v0 + ((j : Int) : Int).toNat * 7)) w37 rfl (r_indexX (by exact e43) (Q0.row (Gh.le_trans (Gh.le_trans le14 le45) S46.le)) (by exact e39) (by omega) (by first | omega | (simp; omega) | simp) Try.underlying42 (by kernel_rfl)) ?_
      obtain ⟨a48, ha49⟩ := get_some (l := ops) (j := ((j : Int) : Int).toNat) (by first | omega | (simp; omega) | simp)
      obtain ⟨ka, kb, kc, kt⟩ := LOp.ok_iff.1 (List.all_eq_true.1 hok _ (List.mem_of_getElem? ha49))
      obtain ⟨cs50, hc51, he52⟩ := Q0.el ha49
      obtain ⟨v54, v57, v60, v63, rfl, r53, ⟨o55, H56⟩, ⟨o58, H59⟩, ⟨o61, H62⟩, ⟨o64, H65⟩, r66, r67⟩ := hc51
      refine EL_val (.agg ([.int .i64 a48.kind, v54, v57, v60, v63, .int .i64 a48.ref, .int .i64 a48.box]).toArray) w37 rfl (r_loadR (cs := [.int .i64 a48.kind, v54, v57, v60, v63, .int .i64 a48.ref, .int .i64 a48.box]) rfl (he52 _ (Gh.le_trans (Gh.le_trans le14 le45) S46.le)) Try.underlying49 rfl (by kernel_rfl)) ?_
      refine EL_alloc (z := .agg #[.int .i64 0, .slice none 0 0, .slice none 0 0, .slice none 0 0, .slice none 0 0, .int .i64 0, .int .i64 0]) [.int .i64 0, .slice none 0 0, .slice none 0 0, .slice none 0 0, .slice none 0 0, .int .i64 0, .int .i64 0] rfl (by kernel_rfl) rfl ?_
      intro b68 w69 k70 A71 B72 z73
      have S74 : Sat w69 I38 (Blk b68 49 [.int .i64 0, .slice none 0 0, .slice none 0 0, .slice none 0 0, .slice none 0 0, .int .i64 0, .int .i64 0] :: OwnX 22 bytesR tv tl :: Suite p20 L :: RefT (ptr b21) L :: R) := S46.newB B72 A71 k70
      refine EL_storeAll (v := .agg ([.int .i64 a48.kind, v54, v57, v60, v63, .int .i64 a48.ref, .int .i64 a48.box]).toArray) (cs' := ([.int .i64 a48.kind, v54, v57, v60, v63, .int .i64 a48.ref, .int .i64 a48.box]).toArray) rfl rfl rfl (S74.arr 0 rfl) rfl (by kernel_rfl) (ones_cons rfl (ones_cons o55 (ones_cons o58 (ones_cons o61 (ones_cons o64 (ones_cons rfl (ones_cons rfl (fun _ h => nomatch h)))))))) ?_
      intro w75 A76 K77 z78
      have S79 : Sat w75 I38 (Blk b68 49 [.int .i64 a48.kind, v54, v57, v60, v63, .int .i64 a48.ref, .int .i64 a48.box] :: OwnX 22 bytesR tv tl :: Suite p20 L :: RefT (ptr b21) L :: R) := S74.wrote 0 rfl K77 A76
      refine EL_nil ?_
      refine thn_n ?_
      refine EC_seq ?_
      refine EC_seq ?_
      refine EC_reg ?_
      refine EL_val (ptr b68 5) w75 rfl (r_fieldP (o := 0) (s := 1) rfl Try.underlying49 rfl (by kernel_rfl) (by decide) rfl) ?_
      refine EL_val (.int .i64 a48.ref) w75 rfl (r_loadA rfl (S79.arr 0 rfl) (u := (.int .i64 a48.ref)) rfl Try.underlying3 rfl) ?_
      refine EL_val (.bool (decide (0 < a48.ref))) w75 rfl (r_gtr rfl rfl) ?_
      refine EL_val (.bool (decide (0 < a48.ref))) w75 rfl (r_move rfl) ?_
      refine EL_gite 29 rfl rfl rfl (ptr b68 5) rfl (fun g80 => r_fieldP (o := 0) (s := 1) rfl Try.underlying49 rfl (by kernel_rfl) (by decide) rfl) ?_
      refine EL_gite 29 rfl rfl rfl (.int .i64 a48.ref) rfl (fun g81 => r_loadA (cond_of g81 rfl) (S79.arr 0 rfl) (u := (.int .i64 a48.ref)) rfl Try.underlying3 rfl) ?_
      refine EL_gite 29 rfl rfl rfl tv rfl (fun g82 => r_move (by exact e40)) ?_
      refine EL_gite 29 rfl rfl rfl (.int .i64 (tl.length : Int)) rfl (fun g83 => r_lenX (cond_of g83 rfl) (OwnX.row S79 1 rfl (by decide)).1 Try.underlying36) ?_
      refine EL_gite 29 rfl rfl rfl (.bool (decide (a48.ref ≤ (tl.length : Int)))) rfl (fun g84 => r_leq (cond_of g84 rfl) (cond_of g84 rfl)) ?_
      refine EL_val (.bool ((decide (0 < a48.ref)) && (decide (a48.ref ≤ (tl.length : Int))))) w75 rfl (r_and rfl rfl rfl) ?_
      refine EL_nil ?_
      refine thn_n ?_
      refine EC_post (fun E' w' => ∃ av : Value, ∃ a2 : List UInt8, E' 3 = p20 ∧ E' 4 = ptr b21 ∧ E' 5 = tv ∧ E' 7 = ptr b68 ∧ E' 20 = v0 ∧ E' 21 = .int .i64 (ops.length : Int) ∧ E' 22 = .int .i64 (j : Int) ∧ E' 23 = .bool (decide ((j : Int) < (ops.length : Int))) ∧ E' 24 = ptr (blkOf v0) (offOf v0 + ((j : Int) : Int).toNat * 7) ∧ E' 25 = .agg ([.int .i64 a48.kind, v54, v57, v60, v63, .int .i64 a48.ref, .int .i64 a48.box]).toArray ∧ E' 26 = ptr b68 5 ∧ E' 27 = .int .i64 a48.ref ∧ E' 28 = .bool (decide (0 < a48.ref)) ∧ E' 29 = .bool (decide (0 < a48.ref)) ∧ E' 35 = .bool ((decide (0 < a48.ref)) && (decide (a48.ref ≤ (tl.length : Int)))) ∧ (av.oneCell' = true) ∧ (a2.length ≤ 300) ∧ RoB I38 av a2 ∧ Sat w' I38 (Blk b68 49 [.int .i64 a48.kind, av, v57, v60, v63, .int .i64 a48.ref, .int .i64 a48.box] :: OwnX 22 bytesR tv tl :: Suite p20 L :: RefT (ptr b21) L :: R)) ?_ ?_
      · refine EC_cond (t := (decide (0 < a48.ref)) && (decide (a48.ref ≤ (tl.length : Int)))) rfl (fun h85 => ?_) (fun h85 => ?_)
        · simp only [Bool.and_eq_true, Bool.or_eq_true, Bool.not_eq_true', Bool.not_eq_false', decide_eq_true_eq, decide_eq_false_iff_not, Bool.and_eq_false_iff, Bool.or_eq_false_iff, Bool.not_eq_true, Bool.not_eq_false, bne_iff_ne, beq_iff_eq, beq_eq_false_iff_ne] at h85
          refine EC_reg ?_
          refine EL_val tv w75 rfl (r_move (by exact e40)) ?_
          refine EL_val (ptr b68 5) w75 rfl (r_fieldP (o := 0) (s := 1) rfl Try.underlying49 rfl (by kernel_rfl) (by decide) rfl) ?_
          refine EL_val (.int .i64 a48.ref) w75 rfl (r_loadA rfl (S79.arr 0 rfl) (u := (.int .i64 a48.ref)) rfl Try.underlying3 rfl) ?_
          refine EL_int (a48.ref - 1) rfl (r_subi rfl rfl (by omega)) ?_
          intro x86 hx86
          refine EL_val (ptr (blkOf tv) (offOf tv + (x86 : Int).toNat * 1)) w75 rfl (r_indexX rfl (OwnX.row S79 1 rfl (by decide)).1 rfl (by omega) (by first | omega | (simp; omega) | simp) Try.underlying36 (by kernel_rfl)) ?_
          obtain ⟨a87, ha88⟩ := get_some (l := tl) (j := (x86 : Int).toNat) (by first | omega | (simp; omega) | simp)
          have hle := hTl _ (List.mem_of_getElem? ha88)
          obtain ⟨cs89, hc90, he91⟩ := (OwnX.row S79 1 rfl (by decide)).2 _ _ ha88
          obtain ⟨v92, rfl, o93, H94⟩ := hc90
          refine EL_val v92 w75 rfl (r_load0 rfl he91 Try.underlying22 rfl) ?_
          refine EL_val (ptr b68 1) w75 rfl (r_fieldP (o := 0) (s := 1) rfl Try.underlying49 rfl (by kernel_rfl) (by decide) rfl) ?_
          refine EL_storeA (j := 1) (u := v92) rfl rfl (S79.arr 0 rfl) (by first | decide | (simp; omega) | simp) o93 (by kernel_rfl) ?_
          intro w95 A96 K97 z98
          have S99 : Sat w95 I38 (Blk b68 49 [.int .i64 a48.kind, v92, v57, v60, v63, .int .i64 a48.ref, .int .i64 a48.box] :: OwnX 22 bytesR tv tl :: Suite p20 L :: RefT (ptr b21) L :: R) := S79.wrote 0 rfl K97 A96
          refine EL_nil ?_
          refine thn_n ?_
          exact ⟨v92, a87, (by exact e41), (by exact e42), (by exact e40), rfl, (by exact e43), (by exact e44), (by exact e39), rfl, rfl, rfl, rfl, rfl, rfl, rfl, rfl, o93, by omega, H94, S99⟩
        · simp only [Bool.and_eq_true, Bool.or_eq_true, Bool.not_eq_true', Bool.not_eq_false', decide_eq_true_eq, decide_eq_false_iff_not, Bool.and_eq_false_iff, Bool.or_eq_false_iff, Bool.not_eq_true, Bool.not_eq_false, bne_iff_ne, beq_iff_eq, beq_eq_false_iff_ne] at h85
          refine EC_skip ?_
          refine thn_n ?_
          exact ⟨v54, a48.a, (by exact e41), (by exact e42), (by exact e40), rfl, (by exact e43), (by exact e44), (by exact e39), rfl, rfl, rfl, rfl, rfl, rfl, rfl, rfl, o55, by omega, (H56.up (Gh.le_trans le14 le45)), S79⟩
      · rintro E100 w101 ⟨av, a2, e102, e103, e104, e105, e106, e107, e108, e109, e110, e111, e112, e113, e114, e115, e116, oav, ha2, H117, S118⟩
        refine thn_n ?_
        refine EC_seq ?_
        refine EC_seq ?_
        refine EC_reg ?_
        refine EL_val (ptr b68 0) w101 rfl (r_fieldP (o := 0) (s := 1) (by exact e105) Try.underlying49 rfl (by kernel_rfl) (by decide) rfl) ?_
        refine EL_val (.int .i64 a48.kind) w101 rfl (r_loadA rfl (S118.arr 0 rfl) (u := (.int .i64 a48.kind)) rfl Try.underlying3 rfl) ?_
        refine EL_val (.bool (decide (a48.kind = 5))) w101 rfl (r_eql rfl rfl) ?_
        refine EL_val (.bool (decide (a48.kind = 5))) w101 rfl (r_move rfl) ?_
        refine EL_gite 46 rfl rfl rfl (ptr b68 6) rfl (fun g119 => r_fieldP (o := 0) (s := 1) (by exact e105) Try.underlying49 rfl (by kernel_rfl) (by decide) rfl) ?_
        refine EL_gite 46 rfl rfl rfl (.int .i64 a48.box) rfl (fun g120 => r_loadA (cond_of g120 rfl) (S118.arr 0 rfl) (u := (.int .i64 a48.box)) rfl Try.underlying3 rfl) ?_
        refine EL_gite 46 rfl rfl rfl (.bool (decide (0 < a48.box))) rfl (fun g121 => r_gtr (cond_of g121 rfl) rfl) ?_
        refine EL_val (.bool ((decide (a48.kind = 5)) && (decide (0 < a48.box)))) w101 rfl (r_and rfl rfl rfl) ?_
        refine EL_val (.bool ((decide (a48.kind = 5)) && (decide (0 < a48.box)))) w101 rfl (r_move rfl) ?_
        refine EL_gite 51 rfl rfl rfl (ptr b68 6) rfl (fun g122 => r_fieldP (o := 0) (s := 1) (by exact e105) Try.underlying49 rfl (by kernel_rfl) (by decide) rfl) ?_
        refine EL_gite 51 rfl rfl rfl (.int .i64 a48.box) rfl (fun g123 => r_loadA (cond_of g123 rfl) (S118.arr 0 rfl) (u := (.int .i64 a48.box)) rfl Try.underlying3 rfl) ?_
        refine EL_gite 51 rfl rfl rfl tv rfl (fun g124 => r_move (by exact e104)) ?_
        refine EL_gite 51 rfl rfl rfl (.int .i64 (tl.length : Int)) rfl (fun g125 => r_lenX (cond_of g125 rfl) (OwnX.row S118 1 rfl (by decide)).1 Try.underlying36) ?_
        refine EL_gite 51 rfl rfl rfl (.bool (decide (a48.box ≤ (tl.length : Int)))) rfl (fun g126 => r_leq (cond_of g126 rfl) (cond_of g126 rfl)) ?_
        refine EL_val (.bool (((decide (a48.kind = 5)) && (decide (0 < a48.box))) && (decide (a48.box ≤ (tl.length : Int))))) w101 rfl (r_and rfl rfl rfl) ?_
        refine EL_nil ?_
        refine thn_n ?_
        refine EC_post (fun E' w' => ∃ xv : Value, ∃ x2 : List UInt8, E' 3 = p20 ∧ E' 4 = ptr b21 ∧ E' 5 = tv ∧ E' 7 = ptr b68 ∧ E' 20 = v0 ∧ E' 21 = .int .i64 (ops.length : Int) ∧ E' 22 = .int .i64 (j : Int) ∧ E' 23 = .bool (decide ((j : Int) < (ops.length : Int))) ∧ E' 24 = ptr (blkOf v0) (offOf v0 + ((j : Int) : Int).toNat * 7) ∧ E' 25 = .agg ([.int .i64 a48.kind, v54, v57, v60, v63, .int .i64 a48.ref, .int .i64 a48.box]).toArray ∧ E' 26 = ptr b68 5 ∧ E' 27 = .int .i64 a48.ref ∧ E' 28 = .bool (decide (0 < a48.ref)) ∧ E' 29 = .bool (decide (0 < a48.ref)) ∧ E' 35 = .bool ((decide (0 < a48.ref)) && (decide (a48.ref ≤ (tl.length : Int)))) ∧ E' 43 = ptr b68 0 ∧ E' 44 = .int .i64 a48.kind ∧ E' 45 = .bool (decide (a48.kind = 5)) ∧ E' 46 = .bool (decide (a48.kind = 5)) ∧ E' 50 = .bool ((decide (a48.kind = 5)) && (decide (0 < a48.box))) ∧ E' 51 = .bool ((decide (a48.kind = 5)) && (decide (0 < a48.box))) ∧ E' 57 = .bool (((decide (a48.kind = 5)) && (decide (0 < a48.box))) && (decide (a48.box ≤ (tl.length : Int)))) ∧ (xv.oneCell' = true) ∧ (x2.length ≤ 300) ∧ (a48.kind = 5 ∨ x2.length ≤ 200) ∧ RoB I38 xv x2 ∧ Sat w' I38 (Blk b68 49 [.int .i64 a48.kind, av, v57, v60, xv, .int .i64 a48.ref, .int .i64 a48.box] :: OwnX 22 bytesR tv tl :: Suite p20 L :: RefT (ptr b21) L :: R)) ?_ ?_
        · refine EC_cond (t := ((decide (a48.kind = 5)) && (decide (0 < a48.box))) && (decide (a48.box ≤ (tl.length : Int)))) rfl (fun h127 => ?_) (fun h127 => ?_)
          · simp only [Bool.and_eq_true, Bool.or_eq_true, Bool.not_eq_true', Bool.not_eq_false', decide_eq_true_eq, decide_eq_false_iff_not, Bool.and_eq_false_iff, Bool.or_eq_false_iff, Bool.not_eq_true, Bool.not_eq_false, bne_iff_ne, beq_iff_eq, beq_eq_false_iff_ne] at h127
            refine EC_reg ?_
            refine EL_val tv w101 rfl (r_move (by exact e104)) ?_
            refine EL_val (ptr b68 6) w101 rfl (r_fieldP (o := 0) (s := 1) (by exact e105) Try.underlying49 rfl (by kernel_rfl) (by decide) rfl) ?_
            refine EL_val (.int .i64 a48.box) w101 rfl (r_loadA rfl (S118.arr 0 rfl) (u := (.int .i64 a48.box)) rfl Try.underlying3 rfl) ?_
            refine EL_int (a48.box - 1) rfl (r_subi rfl rfl (by omega)) ?_
            intro x128 hx128
            refine EL_val (ptr (blkOf tv) (offOf tv + (x128 : Int).toNat * 1)) w101 rfl (r_indexX rfl (OwnX.row S118 1 rfl (by decide)).1 rfl (by omega) (by first | omega | (simp; omega) | simp) Try.underlying36 (by kernel_rfl)) ?_
            obtain ⟨a129, ha130⟩ := get_some (l := tl) (j := (x128 : Int).toNat) (by first | omega | (simp; omega) | simp)
            have hle := hTl _ (List.mem_of_getElem? ha130)
            obtain ⟨cs131, hc132, he133⟩ := (OwnX.row S118 1 rfl (by decide)).2 _ _ ha130
            obtain ⟨v134, rfl, o135, H136⟩ := hc132
            refine EL_val v134 w101 rfl (r_load0 rfl he133 Try.underlying22 rfl) ?_
            refine EL_val (ptr b68 4) w101 rfl (r_fieldP (o := 0) (s := 1) (by exact e105) Try.underlying49 rfl (by kernel_rfl) (by decide) rfl) ?_
            refine EL_storeA (j := 4) (u := v134) rfl rfl (S118.arr 0 rfl) (by first | decide | (simp; omega) | simp) o135 (by kernel_rfl) ?_
            intro w137 A138 K139 z140
            have S141 : Sat w137 I38 (Blk b68 49 [.int .i64 a48.kind, av, v57, v60, v134, .int .i64 a48.ref, .int .i64 a48.box] :: OwnX 22 bytesR tv tl :: Suite p20 L :: RefT (ptr b21) L :: R) := S118.wrote 0 rfl K139 A138
            refine EL_nil ?_
            refine thn_n ?_
            exact ⟨v134, a129, (by exact e102), (by exact e103), (by exact e104), (by exact e105), (by exact e106), (by exact e107), (by exact e108), (by exact e109), (by exact e110), (by exact e111), (by exact e112), (by exact e113), (by exact e114), (by exact e115), (by exact e116), rfl, rfl, rfl, rfl, rfl, rfl, rfl, o135, by omega, by omega, H136, S141⟩
          · simp only [Bool.and_eq_true, Bool.or_eq_true, Bool.not_eq_true', Bool.not_eq_false', decide_eq_true_eq, decide_eq_false_iff_not, Bool.and_eq_false_iff, Bool.or_eq_false_iff, Bool.not_eq_true, Bool.not_eq_false, bne_iff_ne, beq_iff_eq, beq_eq_false_iff_ne] at h127
            refine EC_skip ?_
            refine thn_n ?_
            exact ⟨v63, a48.text, (by exact e102), (by exact e103), (by exact e104), (by exact e105), (by exact e106), (by exact e107), (by exact e108), (by exact e109), (by exact e110), (by exact e111), (by exact e112), (by exact e113), (by exact e114), (by exact e115), (by exact e116), rfl, rfl, rfl, rfl, rfl, rfl, rfl, o64, by omega, by omega, (H65.up (Gh.le_trans le14 le45)), S118⟩
        · rintro E142 w143 ⟨xv, x2, e144, e145, e146, e147, e148, e149, e150, e151, e152, e153, e154, e155, e156, e157, e158, e159, e160, e161, e162, e163, e164, e165, oxv, hx2, hx3, H166, S167⟩
          refine thn_n ?_
          refine EC_seq ?_
          refine EC_reg ?_
          refine EL_val (.slice none 0 0) w143 rfl (r_assign rfl) ?_
          refine EL_val (.slice none 0 0) w143 rfl (r_assign rfl) ?_
          refine EL_nil ?_
          refine thn_n ?_
          refine EC_seq ?_
          refine EC_reg ?_
          refine EL_val (.int .i64 0) w143 rfl (r_assign rfl) ?_
          refine EL_nil ?_
          refine thn_n ?_
          refine EC_seq ?_
          refine EC_reg ?_
          refine EL_val (.int .i64 0) w143 rfl (r_assign rfl) ?_
          refine EL_nil ?_
          refine thn_n ?_
          refine EC_seq ?_
          refine EC_seq ?_
          refine EC_reg ?_
          refine EL_val (ptr b68 0) w143 rfl (r_fieldP (o := 0) (s := 1) (by exact e147) Try.underlying49 rfl (by kernel_rfl) (by decide) rfl) ?_
          refine EL_val (.int .i64 a48.kind) w143 rfl (r_loadA rfl (S167.arr 0 rfl) (u := (.int .i64 a48.kind)) rfl Try.underlying3 rfl) ?_
          refine EL_nil ?_
          refine thn_n ?_
          refine EC_post (fun E' w' => ∃ yv : Value, ∃ zv : Value, ∃ y : List UInt8, ∃ er : Int, ∃ L2 : List Thing, ∃ J : Gh, E' 8 = yv ∧ E' 9 = zv ∧ E' 10 = .int .i64 er ∧ E' 11 = .int .i64 er ∧ E' 3 = p20 ∧ E' 4 = ptr b21 ∧ E' 5 = tv ∧ E' 7 = ptr b68 ∧ E' 20 = v0 ∧ E' 21 = .int .i64 (ops.length : Int) ∧ E' 22 = .int .i64 (j : Int) ∧ E' 23 = .bool (decide ((j : Int) < (ops.length : Int))) ∧ E' 24 = ptr (blkOf v0) (offOf v0 + ((j : Int) : Int).toNat * 7) ∧ E' 25 = .agg ([.int .i64 a48.kind, v54, v57, v60, v63, .int .i64 a48.ref, .int .i64 a48.box]).toArray ∧ E' 26 = ptr b68 5 ∧ E' 27 = .int .i64 a48.ref ∧ E' 28 = .bool (decide (0 < a48.ref)) ∧ E' 29 = .bool (decide (0 < a48.ref)) ∧ E' 35 = .bool ((decide (0 < a48.ref)) && (decide (a48.ref ≤ (tl.length : Int)))) ∧ E' 43 = ptr b68 0 ∧ E' 44 = .int .i64 a48.kind ∧ E' 45 = .bool (decide (a48.kind = 5)) ∧ E' 46 = .bool (decide (a48.kind = 5)) ∧ E' 50 = .bool ((decide (a48.kind = 5)) && (decide (0 < a48.box))) ∧ E' 51 = .bool ((decide (a48.kind = 5)) && (decide (0 < a48.box))) ∧ E' 57 = .bool (((decide (a48.kind = 5)) && (decide (0 < a48.box))) && (decide (a48.box ≤ (tl.length : Int)))) ∧ E' 65 = ptr b68 0 ∧ E' 66 = .int .i64 a48.kind ∧ (Plain L2) ∧ (L2.length ≤ L.length + 1) ∧ (Texts 300 L2) ∧ (y.length ≤ 300) ∧ Gh.le I38 J ∧ RoB J yv y ∧ RoB J zv y ∧ Sat w' J (Suite p20 L2 :: RefT (ptr b21) L2 :: Blk b68 49 [.int .i64 a48.kind, av, v57, v60, xv, .int .i64 a48.ref, .int .i64 a48.box] :: OwnX 22 bytesR tv tl :: R)) ?_ ?_
          · refine EC_block ?_
            refine EC_seq ?_
            refine EC_reg ?_
            refine EL_val (.bool (decide (a48.kind = 1))) w143 rfl (r_eql rfl rfl) ?_
            refine EL_val (.bool (decide (a48.kind = 1))) w143 rfl (r_assign rfl) ?_
            refine EL_nil ?_
            refine thn_n ?_
            refine EC_if (p := a48.kind = 1) rfl (fun h168 => ?_) (fun h168 => ?_)
            · refine EC_any 8 (fun w' => Gh.le I38 (gh w')) (fun w' => Arr w' b68 49 [.int .i64 a48.kind, av, v57, v60, xv, .int .i64 a48.ref, .int .i64 a48.box]) (by kernel_rfl) ?_
              intro w169 B170
              have S171 : Sat w169 I38 (Blk b68 49 [.int .i64 a48.kind, av, v57, v60, xv, .int .i64 a48.ref, .int .i64 a48.box] :: OwnX 22 bytesR tv tl :: Suite p20 L :: RefT (ptr b21) L :: R) := S167.below B170
              refine EJ_take 0 rfl (by kernel_rfl) (by kernel_rfl) (by kernel_rfl) rfl (by kernel_rfl) p20 rfl (fun _ hw ht => r_move (by exact e144)) ⟨S171.le, fun h => S171.arr 0 rfl⟩ ?_
              refine EJ_take 1 rfl (by kernel_rfl) (by kernel_rfl) (by kernel_rfl) rfl (by kernel_rfl) (ptr b68 4) rfl (fun _ hw ht => r_fieldP (o := 0) (s := 1) (by exact e147) Try.underlying49 rfl (by kernel_rfl) (by decide) rfl) ⟨S171.le, fun h => S171.arr 0 rfl⟩ ?_
              refine EJ_take 2 rfl (by kernel_rfl) (by kernel_rfl) (by kernel_rfl) rfl (by kernel_rfl) xv rfl (fun _ hw ht => r_loadA rfl ht (u := xv) rfl Try.underlying22 rfl) ⟨S171.le, fun h => S171.arr 0 rfl⟩ ?_
              refine EJ_take 5 rfl (by kernel_rfl) (by kernel_rfl) (by kernel_rfl) rfl (by kernel_rfl) (ptr b21) rfl (fun _ hw ht => r_move (by exact e145)) ⟨S171.le, fun h => S171.arr 0 rfl⟩ ?_
              refine EJ_take 6 rfl (by kernel_rfl) (by kernel_rfl) (by kernel_rfl) rfl (by kernel_rfl) (ptr b68 4) rfl (fun _ hw ht => r_fieldP (o := 0) (s := 1) (by exact e147) Try.underlying49 rfl (by kernel_rfl) (by decide) rfl) ⟨S171.le, fun h => S171.arr 0 rfl⟩ ?_
              refine EJ_take 7 rfl (by kernel_rfl) (by kernel_rfl) (by kernel_rfl) rfl (by kernel_rfl) xv rfl (fun _ hw ht => r_loadA rfl ht (u := xv) rfl Try.underlying22 rfl) ⟨S171.le, fun h => S171.arr 0 rfl⟩ ?_
              refine EJ_one 3 (by kernel_rfl) ⟨_, rfl, ?_⟩
              refine EL_lit1 (l := [(0, xv)]) w169.heap.size [xv] el_36 rfl (by decide) rfl (Nat.le_refl _) (parts1 rfl) (Eq.trans (show Instr.fill _ _ [(0, xv)] = _ from (fill_one rfl (one_cells oxv) (by kernel_rfl) fill_end)) (by kernel_rfl)) ?_
              intro v172 w173 O174 B175 k176
              have S177 : Sat w173 I38 (OwnX 22 bytesR v172 [x2] :: Blk b68 49 [.int .i64 a48.kind, av, v57, v60, xv, .int .i64 a48.ref, .int .i64 a48.box] :: OwnX 22 bytesR tv tl :: Suite p20 L :: RefT (ptr b21) L :: R) := OwnX.cls (xss := [[xv]]) (.cons ⟨_, rfl, oxv, H166⟩ .nil) (S171.newO B175 O174)
              refine EL_nil ?_
              refine ⟨rfl, ⟨S177.le, fun h => S177.arr 1 rfl⟩, ?_⟩
              refine EJ_one 4 (by kernel_rfl) ⟨_, rfl, ?_⟩
              have oH181 := (OwnX.one S177 0 rfl (by decide))
              obtain ⟨I178, le179, S180, H181⟩ : ∃ J : Gh, Gh.le I38 J ∧ Sat w173 J (Blk b68 49 [.int .i64 a48.kind, av, v57, v60, xv, .int .i64 a48.ref, .int .i64 a48.box] :: OwnX 22 bytesR tv tl :: Suite p20 L :: RefT (ptr b21) L :: R) ∧ RoX J v172 bytesR [x2] := OwnX.frz S177 0 rfl (by decide)
              have S182 : Sat w173 I178 (Suite p20 L :: Blk b68 49 [.int .i64 a48.kind, av, v57, v60, xv, .int .i64 a48.ref, .int .i64 a48.box] :: OwnX 22 bytesR tv tl :: RefT (ptr b21) L :: R) := S180.cons_front (i := 2) rfl
              refine EL_ret _ rfl Try.func12 rfl nm12 rfl (Sum_c p20 L v172 [x2] I178 _ _ S182 H181 (by omega) (by simp; omega)) ?_
              rintro _ w183 ⟨v185, rfl, S184⟩
              refine EL_nil ?_
              refine ⟨rfl, ⟨(Gh.le_trans le179 S184.le), fun h => S184.arr 2 rfl⟩, ?_⟩
              refine EJ_strong (fun w' => Gh.le I178 (gh w')) _ (fun w' hw => Gh.le_trans le179 hw) (fun w' _ ht => ht) ?_
              refine EJ_one 8 (by kernel_rfl) ⟨_, rfl, ?_⟩
              have S186 : Sat w183 I178 (RefT (ptr b21) L :: OwnB v185 (signOf 72 (onceN (tSum [x2].flatten) L)) :: Suite p20 (onceL (tSum [x2].flatten) L) :: Blk b68 49 [.int .i64 a48.kind, av, v57, v60, xv, .int .i64 a48.ref, .int .i64 a48.box] :: OwnX 22 bytesR tv tl :: R) := S184.cons_front (i := 4) rfl
              refine EL_ret _ rfl Try.func20 rfl nm20 rfl (rSum_c (ptr b21) L xv x2 I178 _ _ S186 (H166.up le179) (by omega) (by first | assumption | omega | (simp; done) | (simp; omega))) ?_
              rintro _ w187 ⟨v189, I190, le191, rfl, S188⟩
              refine EL_nil ?_
              refine ⟨rfl, ⟨(Gh.le_trans le191 S188.le), fun h => by cases h⟩, ?_⟩
              refine EJ_strong (fun w' => Gh.le I190 (gh w')) _ (fun w' hw => Gh.le_trans le191 hw) (fun w' _ ht => ht) ?_
              refine EJ_float 9 rfl (by kernel_rfl) (by kernel_rfl) (by kernel_rfl) rfl v185 rfl (fun _ hw => r_assign rfl) ⟨S188.le, fun h => by cases h⟩ ?_
              refine EJ_float 10 rfl (by kernel_rfl) (by kernel_rfl) (by kernel_rfl) rfl v189 rfl (fun _ hw => r_assign rfl) ⟨S188.le, fun h => by cases h⟩ ?_
              refine EJ_done (by kernel_rfl) ?_
              refine inB_n ?_
              refine thn_n ?_
              obtain ⟨I192, le193, S194, H195⟩ : ∃ J : Gh, Gh.le I190 J ∧ Sat w187 J (OwnB v189 (signOf 72 (onceN (tSum x2) L)) :: RefT (ptr b21) (onceL (tSum x2) L) :: Suite p20 (onceL (tSum [x2].flatten) L) :: Blk b68 49 [.int .i64 a48.kind, av, v57, v60, xv, .int .i64 a48.ref, .int .i64 a48.box] :: OwnX 22 bytesR tv tl :: R) ∧ Ro J v185 ((signOf 72 (onceN (tSum [x2].flatten) L)).map byt) := S188.frz 2 rfl
              obtain ⟨I196, le197, S198, H199⟩ : ∃ J : Gh, Gh.le I192 J ∧ Sat w187 J (RefT (ptr b21) (onceL (tSum x2) L) :: Suite p20 (onceL (tSum [x2].flatten) L) :: Blk b68 49 [.int .i64 a48.kind, av, v57, v60, xv, .int .i64 a48.ref, .int .i64 a48.box] :: OwnX 22 bytesR tv tl :: R) ∧ Ro J v189 ((signOf 72 (onceN (tSum x2) L)).map byt) := S194.frz 0 rfl
              have q201 : onceL (tSum [x2].flatten) L = onceL (tSum x2) L := by simp only [List.flatten_cons, List.flatten_nil, List.append_nil]
              have S200 : Sat w187 I196 (RefT (ptr b21) (onceL (tSum x2) L) :: Suite p20 (onceL (tSum x2) L) :: Blk b68 49 [.int .i64 a48.kind, av, v57, v60, xv, .int .i64 a48.ref, .int .i64 a48.box] :: OwnX 22 bytesR tv tl :: R) := S198.as 1 rfl (congrArg (fun zz => Suite p20 zz) q201)
              have H202 : RoB I192 v185 (signOf 72 (onceN (tSum x2) L)) := rob_as H195 (by simp only [List.flatten_cons, List.flatten_nil, List.append_nil])
              have S203 : Sat w187 I196 (OwnX 22 bytesR tv tl :: RefT (ptr b21) (onceL (tSum x2) L) :: Suite p20 (onceL (tSum x2) L) :: Blk b68 49 [.int .i64 a48.kind, av, v57, v60, xv, .int .i64 a48.ref, .int .i64 a48.box] :: R) := S200.cons_front (i := 3) rfl
              have S204 : Sat w187 I196 (Blk b68 49 [.int .i64 a48.kind, av, v57, v60, xv, .int .i64 a48.ref, .int .i64 a48.box] :: OwnX 22 bytesR tv tl :: RefT (ptr b21) (onceL (tSum x2) L) :: Suite p20 (onceL (tSum x2) L) :: R) := S203.cons_front (i := 3) rfl
              have S205 : Sat w187 I196 (RefT (ptr b21) (onceL (tSum x2) L) :: Blk b68 49 [.int .i64 a48.kind, av, v57, v60, xv, .int .i64 a48.ref, .int .i64 a48.box] :: OwnX 22 bytesR tv tl :: Suite p20 (onceL (tSum x2) L) :: R) := S204.cons_front (i := 2) rfl
              have S206 : Sat w187 I196 (Suite p20 (onceL (tSum x2) L) :: RefT (ptr b21) (onceL (tSum x2) L) :: Blk b68 49 [.int .i64 a48.kind, av, v57, v60, xv, .int .i64 a48.ref, .int .i64 a48.box] :: OwnX 22 bytesR tv tl :: R) := S205.cons_front (i := 3) rfl
              exact ⟨v185, v189, (signOf 72 (onceN (tSum x2) L)), 0, (onceL (tSum x2) L), I196, rfl, rfl, rfl, rfl, (by exact e144), (by exact e145), (by exact e146), (by exact e147), (by exact e148), (by exact e149), (by exact e150), (by exact e151), (by exact e152), (by exact e153), (by exact e154), (by exact e155), (by exact e156), (by exact e157), (by exact e158), (by exact e159), (by exact e160), (by exact e161), (by exact e162), (by exact e163), (by exact e164), (by exact e165), rfl, rfl, (hPl.onceL (fun _ => ⟨rfl, rfl⟩)), (onceL_len _ _), (hTx.once (by dsimp only; omega)), (by rw [sign_len]; decide), (Gh.le_trans (Gh.le_trans (Gh.le_trans le179 le191) le193) le197), (H202.up le197), H199, S206⟩
            · refine EC_seq ?_
              refine EC_reg ?_
              refine EL_val (.bool (decide (a48.kind = 2))) w143 rfl (r_eql rfl rfl) ?_
              refine EL_val (.bool (decide (a48.kind = 2))) w143 rfl (r_assign rfl) ?_
              refine EL_nil ?_
              refine thn_n ?_
              refine EC_if (p := a48.kind = 2) rfl (fun h207 => ?_) (fun h207 => ?_)
              · refine EC_any 12 (fun w' => Gh.le I38 (gh w')) (fun w' => Arr w' b68 49 [.int .i64 a48.kind, av, v57, v60, xv, .int .i64 a48.ref, .int .i64 a48.box]) (by kernel_rfl) ?_
                intro w208 B209
                have S210 : Sat w208 I38 (Blk b68 49 [.int .i64 a48.kind, av, v57, v60, xv, .int .i64 a48.ref, .int .i64 a48.box] :: OwnX 22 bytesR tv tl :: Suite p20 L :: RefT (ptr b21) L :: R) := S167.below B209
                refine EJ_take 0 rfl (by kernel_rfl) (by kernel_rfl) (by kernel_rfl) rfl (by kernel_rfl) p20 rfl (fun _ hw ht => r_move (by exact e144)) ⟨S210.le, fun h => S210.arr 0 rfl⟩ ?_
                refine EJ_take 1 rfl (by kernel_rfl) (by kernel_rfl) (by kernel_rfl) rfl (by kernel_rfl) (ptr b68 1) rfl (fun _ hw ht => r_fieldP (o := 0) (s := 1) (by exact e147) Try.underlying49 rfl (by kernel_rfl) (by decide) rfl) ⟨S210.le, fun h => S210.arr 0 rfl⟩ ?_
                refine EJ_take 2 rfl (by kernel_rfl) (by kernel_rfl) (by kernel_rfl) rfl (by kernel_rfl) av rfl (fun _ hw ht => r_loadA rfl ht (u := av) rfl Try.underlying22 rfl) ⟨S210.le, fun h => S210.arr 0 rfl⟩ ?_
                refine EJ_take 3 rfl (by kernel_rfl) (by kernel_rfl) (by kernel_rfl) rfl (by kernel_rfl) (ptr b68 4) rfl (fun _ hw ht => r_fieldP (o := 0) (s := 1) (by exact e147) Try.underlying49 rfl (by kernel_rfl) (by decide) rfl) ⟨S210.le, fun h => S210.arr 0 rfl⟩ ?_
                refine EJ_take 4 rfl (by kernel_rfl) (by kernel_rfl) (by kernel_rfl) rfl (by kernel_rfl) xv rfl (fun _ hw ht => r_loadA rfl ht (u := xv) rfl Try.underlying22 rfl) ⟨S210.le, fun h => S210.arr 0 rfl⟩ ?_
                refine EJ_take 7 rfl (by kernel_rfl) (by kernel_rfl) (by kernel_rfl) rfl (by kernel_rfl) (ptr b21) rfl (fun _ hw ht => r_move (by exact e145)) ⟨S210.le, fun h => S210.arr 0 rfl⟩ ?_
                refine EJ_take 8 rfl (by kernel_rfl) (by kernel_rfl) (by kernel_rfl) rfl (by kernel_rfl) (ptr b68 1) rfl (fun _ hw ht => r_fieldP (o := 0) (s := 1) (by exact e147) Try.underlying49 rfl (by kernel_rfl) (by decide) rfl) ⟨S210.le, fun h => S210.arr 0 rfl⟩ ?_
                refine EJ_take 9 rfl (by kernel_rfl) (by kernel_rfl) (by kernel_rfl) rfl (by kernel_rfl) av rfl (fun _ hw ht => r_loadA rfl ht (u := av) rfl Try.underlying22 rfl) ⟨S210.le, fun h => S210.arr 0 rfl⟩ ?_
                refine EJ_take 10 rfl (by kernel_rfl) (by kernel_rfl) (by kernel_rfl) rfl (by kernel_rfl) (ptr b68 4) rfl (fun _ hw ht => r_fieldP (o := 0) (s := 1) (by exact e147) Try.underlying49 rfl (by kernel_rfl) (by decide) rfl) ⟨S210.le, fun h => S210.arr 0 rfl⟩ ?_
                refine EJ_take 11 rfl (by kernel_rfl) (by kernel_rfl) (by kernel_rfl) rfl (by kernel_rfl) xv rfl (fun _ hw ht => r_loadA rfl ht (u := xv) rfl Try.underlying22 rfl) ⟨S210.le, fun h => S210.arr 0 rfl⟩ ?_
                refine EJ_one 5 (by kernel_rfl) ⟨_, rfl, ?_⟩
                refine EL_lit1 (l := [(0, xv)]) w208.heap.size [xv] el_36 rfl (by decide) rfl (Nat.le_refl _) (parts1 rfl) (Eq.trans (show Instr.fill _ _ [(0, xv)] = _ from (fill_one rfl (one_cells oxv) (by kernel_rfl) fill_end)) (by kernel_rfl)) ?_
                intro v211 w212 O213 B214 k215
                have S216 : Sat w212 I38 (OwnX 22 bytesR v211 [x2] :: Blk b68 49 [.int .i64 a48.kind, av, v57, v60, xv, .int .i64 a48.ref, .int .i64 a48.box] :: OwnX 22 bytesR tv tl :: Suite p20 L :: RefT (ptr b21) L :: R) := OwnX.cls (xss := [[xv]]) (.cons ⟨_, rfl, oxv, H166⟩ .nil) (S210.newO B214 O213)
                refine EL_nil ?_
                refine ⟨rfl, ⟨S216.le, fun h => S216.arr 1 rfl⟩, ?_⟩
                refine EJ_one 6 (by kernel_rfl) ⟨_, rfl, ?_⟩
                have oH220 := (OwnX.one S216 0 rfl (by decide))
                obtain ⟨I217, le218, S219, H220⟩ : ∃ J : Gh, Gh.le I38 J ∧ Sat w212 J (Blk b68 49 [.int .i64 a48.kind, av, v57, v60, xv, .int .i64 a48.ref, .int .i64 a48.box] :: OwnX 22 bytesR tv tl :: Suite p20 L :: RefT (ptr b21) L :: R) ∧ RoX J v211 bytesR [x2] := OwnX.frz S216 0 rfl (by decide)
                have S221 : Sat w212 I217 (Suite p20 L :: Blk b68 49 [.int .i64 a48.kind, av, v57, v60, xv, .int .i64 a48.ref, .int .i64 a48.box] :: OwnX 22 bytesR tv tl :: RefT (ptr b21) L :: R) := S219.cons_front (i := 2) rfl
                refine EL_ret _ rfl Try.func13 rfl nm13 rfl (Code_c p20 L av a2 v211 [x2] I217 _ _ S221 (H117.up le218) H220 (by omega) (by first | assumption | omega | (simp; done) | (simp; omega)) (by simp; omega)) ?_
                rintro _ w222 ⟨v224, rfl, S223⟩
                refine EL_nil ?_
                refine ⟨rfl, ⟨(Gh.le_trans le218 S223.le), fun h => S223.arr 2 rfl⟩, ?_⟩
                refine EJ_strong (fun w' => Gh.le I217 (gh w')) _ (fun w' hw => Gh.le_trans le218 hw) (fun w' _ ht => ht) ?_
                refine EJ_one 12 (by kernel_rfl) ⟨_, rfl, ?_⟩
                have S225 : Sat w222 I217 (RefT (ptr b21) L :: OwnB v224 (signOf 77 (onceN (tCode a2 [x2].flatten) L)) :: Suite p20 (onceL (tCode a2 [x2].flatten) L) :: Blk b68 49 [.int .i64 a48.kind, av, v57, v60, xv, .int .i64 a48.ref, .int .i64 a48.box] :: OwnX 22 bytesR tv tl :: R) := S223.cons_front (i := 4) rfl
                refine EL_ret _ rfl Try.func21 rfl nm21 rfl (rCode_c (ptr b21) L av a2 xv x2 I217 _ _ S225 (H117.up le218) (H166.up le218) (by omega) (by first | assumption | omega | (simp; done) | (simp; omega))) ?_
                rintro _ w226 ⟨v228, I229, le230, rfl, S227⟩
                refine EL_nil ?_
                refine ⟨rfl, ⟨(Gh.le_trans le230 S227.le), fun h => by cases h⟩, ?_⟩
                refine EJ_strong (fun w' => Gh.le I229 (gh w')) _ (fun w' hw => Gh.le_trans le230 hw) (fun w' _ ht => ht) ?_
                refine EJ_float 13 rfl (by kernel_rfl) (by kernel_rfl) (by kernel_rfl) rfl v224 rfl (fun _ hw => r_assign rfl) ⟨S227.le, fun h => by cases h⟩ ?_
                refine EJ_float 14 rfl (by kernel_rfl) (by kernel_rfl) (by kernel_rfl) rfl v228 rfl (fun _ hw => r_assign rfl) ⟨S227.le, fun h => by cases h⟩ ?_
                refine EJ_done (by kernel_rfl) ?_
                refine inB_n ?_
                refine thn_n ?_
                obtain ⟨I231, le232, S233, H234⟩ : ∃ J : Gh, Gh.le I229 J ∧ Sat w226 J (OwnB v228 (signOf 77 (onceN (tCode a2 x2) L)) :: RefT (ptr b21) (onceL (tCode a2 x2) L) :: Suite p20 (onceL (tCode a2 [x2].flatten) L) :: Blk b68 49 [.int .i64 a48.kind, av, v57, v60, xv, .int .i64 a48.ref, .int .i64 a48.box] :: OwnX 22 bytesR tv tl :: R) ∧ Ro J v224 ((signOf 77 (onceN (tCode a2 [x2].flatten) L)).map byt) := S227.frz 2 rfl
                obtain ⟨I235, le236, S237, H238⟩ : ∃ J : Gh, Gh.le I231 J ∧ Sat w226 J (RefT (ptr b21) (onceL (tCode a2 x2) L) :: Suite p20 (onceL (tCode a2 [x2].flatten) L) :: Blk b68 49 [.int .i64 a48.kind, av, v57, v60, xv, .int .i64 a48.ref, .int .i64 a48.box] :: OwnX 22 bytesR tv tl :: R) ∧ Ro J v228 ((signOf 77 (onceN (tCode a2 x2) L)).map byt) := S233.frz 0 rfl
                have q240 : onceL (tCode a2 [x2].flatten) L = onceL (tCode a2 x2) L := by simp only [List.flatten_cons, List.flatten_nil, List.append_nil]
                have S239 : Sat w226 I235 (RefT (ptr b21) (onceL (tCode a2 x2) L) :: Suite p20 (onceL (tCode a2 x2) L) :: Blk b68 49 [.int .i64 a48.kind, av, v57, v60, xv, .int .i64 a48.ref, .int .i64 a48.box] :: OwnX 22 bytesR tv tl :: R) := S237.as 1 rfl (congrArg (fun zz => Suite p20 zz) q240)
                have H241 : RoB I231 v224 (signOf 77 (onceN (tCode a2 x2) L)) := rob_as H234 (by simp only [List.flatten_cons, List.flatten_nil, List.append_nil])
                have S242 : Sat w226 I235 (OwnX 22 bytesR tv tl :: RefT (ptr b21) (onceL (tCode a2 x2) L) :: Suite p20 (onceL (tCode a2 x2) L) :: Blk b68 49 [.int .i64 a48.kind, av, v57, v60, xv, .int .i64 a48.ref, .int .i64 a48.box] :: R) := S239.cons_front (i := 3) rfl
                have S243 : Sat w226 I235 (Blk b68 49 [.int .i64 a48.kind, av, v57, v60, xv, .int .i64 a48.ref, .int .i64 a48.box] :: OwnX 22 bytesR tv tl :: RefT (ptr b21) (onceL (tCode a2 x2) L) :: Suite p20 (onceL (tCode a2 x2) L) :: R) := S242.cons_front (i := 3) rfl
                have S244 : Sat w226 I235 (RefT (ptr b21) (onceL (tCode a2 x2) L) :: Blk b68 49 [.int .i64 a48.kind, av, v57, v60, xv, .int .i64 a48.ref, .int .i64 a48.box] :: OwnX 22 bytesR tv tl :: Suite p20 (onceL (tCode a2 x2) L) :: R) := S243.cons_front (i := 2) rfl
                have S245 : Sat w226 I235 (Suite p20 (onceL (tCode a2 x2) L) :: RefT (ptr b21) (onceL (tCode a2 x2) L) :: Blk b68 49 [.int .i64 a48.kind, av, v57, v60, xv, .int .i64 a48.ref, .int .i64 a48.box] :: OwnX 22 bytesR tv tl :: R) := S244.cons_front (i := 3) rfl
                exact ⟨v224, v228, (signOf 77 (onceN (tCode a2 x2) L)), 0, (onceL (tCode a2 x2) L), I235, rfl, rfl, rfl, rfl, (by exact e144), (by exact e145), (by exact e146), (by exact e147), (by exact e148), (by exact e149), (by exact e150), (by exact e151), (by exact e152), (by exact e153), (by exact e154), (by exact e155), (by exact e156), (by exact e157), (by exact e158), (by exact e159), (by exact e160), (by exact e161), (by exact e162), (by exact e163), (by exact e164), (by exact e165), rfl, rfl, (hPl.onceL (fun _ => ⟨rfl, rfl⟩)), (onceL_len _ _), (hTx.once (by dsimp only; omega)), (by rw [sign_len]; decide), (Gh.le_trans (Gh.le_trans (Gh.le_trans le218 le230) le232) le236), (H241.up le236), H238, S245⟩
              · refine EC_seq ?_
                refine EC_reg ?_
                refine EL_val (.bool (decide (a48.kind = 3))) w143 rfl (r_eql rfl rfl) ?_
                refine EL_val (.bool (decide (a48.kind = 3))) w143 rfl (r_assign rfl) ?_
                refine EL_nil ?_
                refine thn_n ?_
                refine EC_if (p := a48.kind = 3) rfl (fun h246 => ?_) (fun h246 => ?_)
                · refine EC_reg ?_
                  refine EL_val p20 w143 rfl (r_move (by exact e144)) ?_
                  have S247 : Sat w143 I38 (Suite p20 L :: Blk b68 49 [.int .i64 a48.kind, av, v57, v60, xv, .int .i64 a48.ref, .int .i64 a48.box] :: OwnX 22 bytesR tv tl :: RefT (ptr b21) L :: R) := S167.cons_front (i := 2) rfl
                  refine EL_ret _ rfl Try.func14 rfl nm14 rfl (Key_c p20 L I38 _ _ S247 (by omega)) ?_
                  rintro _ w248 ⟨v250, rfl, S249⟩
                  refine EL_val (ptr b21) w248 rfl (r_move (by exact e145)) ?_
                  have S251 : Sat w248 I38 (RefT (ptr b21) L :: OwnB v250 (signOf 75 ((L.length : Int) + 1)) :: Suite p20 (L ++ [tKey]) :: Blk b68 49 [.int .i64 a48.kind, av, v57, v60, xv, .int .i64 a48.ref, .int .i64 a48.box] :: OwnX 22 bytesR tv tl :: R) := S249.cons_front (i := 4) rfl
                  refine EL_ret _ rfl Try.func22 rfl nm22 rfl (rKey_c (ptr b21) L I38 _ _ S251 (by omega)) ?_
                  rintro _ w252 ⟨v254, I255, le256, rfl, S253⟩
                  refine EL_val v250 w252 rfl (r_assign rfl) ?_
                  refine EL_val v254 w252 rfl (r_assign rfl) ?_
                  refine EL_nil ?_
                  refine inB_n ?_
                  refine thn_n ?_
                  obtain ⟨I257, le258, S259, H260⟩ : ∃ J : Gh, Gh.le I255 J ∧ Sat w252 J (OwnB v254 (signOf 75 ((L.length : Int) + 1)) :: RefT (ptr b21) (L ++ [tKey]) :: Suite p20 (L ++ [tKey]) :: Blk b68 49 [.int .i64 a48.kind, av, v57, v60, xv, .int .i64 a48.ref, .int .i64 a48.box] :: OwnX 22 bytesR tv tl :: R) ∧ Ro J v250 ((signOf 75 ((L.length : Int) + 1)).map byt) := S253.frz 2 rfl
                  obtain ⟨I261, le262, S263, H264⟩ : ∃ J : Gh, Gh.le I257 J ∧ Sat w252 J (RefT (ptr b21) (L ++ [tKey]) :: Suite p20 (L ++ [tKey]) :: Blk b68 49 [.int .i64 a48.kind, av, v57, v60, xv, .int .i64 a48.ref, .int .i64 a48.box] :: OwnX 22 bytesR tv tl :: R) ∧ Ro J v254 ((signOf 75 ((L.length : Int) + 1)).map byt) := S259.frz 0 rfl
                  have S265 : Sat w252 I261 (OwnX 22 bytesR tv tl :: RefT (ptr b21) (L ++ [tKey]) :: Suite p20 (L ++ [tKey]) :: Blk b68 49 [.int .i64 a48.kind, av, v57, v60, xv, .int .i64 a48.ref, .int .i64 a48.box] :: R) := S263.cons_front (i := 3) rfl
                  have S266 : Sat w252 I261 (Blk b68 49 [.int .i64 a48.kind, av, v57, v60, xv, .int .i64 a48.ref, .int .i64 a48.box] :: OwnX 22 bytesR tv tl :: RefT (ptr b21) (L ++ [tKey]) :: Suite p20 (L ++ [tKey]) :: R) := S265.cons_front (i := 3) rfl
                  have S267 : Sat w252 I261 (RefT (ptr b21) (L ++ [tKey]) :: Blk b68 49 [.int .i64 a48.kind, av, v57, v60, xv, .int .i64 a48.ref, .int .i64 a48.box] :: OwnX 22 bytesR tv tl :: Suite p20 (L ++ [tKey]) :: R) := S266.cons_front (i := 2) rfl
                  have S268 : Sat w252 I261 (Suite p20 (L ++ [tKey]) :: RefT (ptr b21) (L ++ [tKey]) :: Blk b68 49 [.int .i64 a48.kind, av, v57, v60, xv, .int .i64 a48.ref, .int .i64 a48.box] :: OwnX 22 bytesR tv tl :: R) := S267.cons_front (i := 3) rfl
                  exact ⟨v250, v254, (signOf 75 ((L.length : Int) + 1)), 0, (L ++ [tKey]), I261, rfl, rfl, rfl, rfl, (by exact e144), (by exact e145), (by exact e146), (by exact e147), (by exact e148), (by exact e149), (by exact e150), (by exact e151), (by exact e152), (by exact e153), (by exact e154), (by exact e155), (by exact e156), (by exact e157), (by exact e158), (by exact e159), (by exact e160), (by exact e161), (by exact e162), (by exact e163), (by exact e164), (by exact e165), rfl, rfl, (hPl.snoc (fun h => by cases h)), (by simp), (hTx.snoc (by decide)), (by rw [sign_len]; decide), (Gh.le_trans (Gh.le_trans le256 le258) le262), (H260.up le262), H264, S268⟩
                · refine EC_seq ?_
                  refine EC_reg ?_
                  refine EL_val (.bool (decide (a48.kind = 4))) w143 rfl (r_eql rfl rfl) ?_
                  refine EL_val (.bool (decide (a48.kind = 4))) w143 rfl (r_assign rfl) ?_
                  refine EL_nil ?_
                  refine thn_n ?_
                  refine EC_if (p := a48.kind = 4) rfl (fun h269 => ?_) (fun h269 => ?_)
                  · refine EC_seq ?_
                    refine EC_reg ?_
                    refine EL_val p20 w143 rfl (r_move (by exact e144)) ?_
                    refine EL_val (ptr b68 1) w143 rfl (r_fieldP (o := 0) (s := 1) (by exact e147) Try.underlying49 rfl (by kernel_rfl) (by decide) rfl) ?_
                    refine EL_val av w143 rfl (r_loadA rfl (S167.arr 0 rfl) (u := av) rfl Try.underlying22 rfl) ?_
                    refine EL_val (ptr b68 2) w143 rfl (r_fieldP (o := 0) (s := 1) (by exact e147) Try.underlying49 rfl (by kernel_rfl) (by decide) rfl) ?_
                    refine EL_val v57 w143 rfl (r_loadA rfl (S167.arr 0 rfl) (u := v57) rfl Try.underlying22 rfl) ?_
                    refine EL_val (ptr b68 3) w143 rfl (r_fieldP (o := 0) (s := 1) (by exact e147) Try.underlying49 rfl (by kernel_rfl) (by decide) rfl) ?_
                    refine EL_val v60 w143 rfl (r_loadA rfl (S167.arr 0 rfl) (u := v60) rfl Try.underlying22 rfl) ?_
                    refine EL_val (ptr b68 4) w143 rfl (r_fieldP (o := 0) (s := 1) (by exact e147) Try.underlying49 rfl (by kernel_rfl) (by decide) rfl) ?_
                    refine EL_val xv w143 rfl (r_loadA rfl (S167.arr 0 rfl) (u := xv) rfl Try.underlying22 rfl) ?_
                    have S270 : Sat w143 I38 (Suite p20 L :: Blk b68 49 [.int .i64 a48.kind, av, v57, v60, xv, .int .i64 a48.ref, .int .i64 a48.box] :: OwnX 22 bytesR tv tl :: RefT (ptr b21) L :: R) := S167.cons_front (i := 2) rfl
                    refine EL_ret _ rfl Try.func16 rfl nm16 rfl (Seal_c p20 L av a2 v57 a48.b v60 a48.c xv x2 I38 _ _ S270 H117 (H59.up (Gh.le_trans le14 le45)) (H62.up (Gh.le_trans le14 le45)) H166 (by omega) (by first | assumption | omega | (simp; done) | (simp; omega)) (by first | assumption | omega | (simp; done) | (simp; omega)) (by first | assumption | omega | (simp; done) | (simp; omega)) (by first | assumption | omega | (simp; done) | (simp; omega))) ?_
                    rintro _ w271 ⟨v273, rfl, S272⟩
                    refine EL_val (.tuple #[v273, .int .i64 (sealE a2 a48.b)]) w271 rfl (r_move rfl) ?_
                    refine EL_val v273 w271 rfl (r_extract rfl rfl) ?_
                    refine EL_val (.int .i64 (sealE a2 a48.b)) w271 rfl (r_extract rfl rfl) ?_
                    refine EL_val v273 w271 rfl (r_assign rfl) ?_
                    refine EL_val (.int .i64 (sealE a2 a48.b)) w271 rfl (r_assign rfl) ?_
                    refine EL_nil ?_
                    refine thn_n ?_
                    refine EC_reg ?_
                    refine EL_val (ptr b21) w271 rfl (r_move (by exact e145)) ?_
                    refine EL_val (ptr b68 1) w271 rfl (r_fieldP (o := 0) (s := 1) (by exact e147) Try.underlying49 rfl (by kernel_rfl) (by decide) rfl) ?_
                    refine EL_val av w271 rfl (r_loadA rfl (S272.arr 2 rfl) (u := av) rfl Try.underlying22 rfl) ?_
                    refine EL_val (ptr b68 2) w271 rfl (r_fieldP (o := 0) (s := 1) (by exact e147) Try.underlying49 rfl (by kernel_rfl) (by decide) rfl) ?_
                    refine EL_val v57 w271 rfl (r_loadA rfl (S272.arr 2 rfl) (u := v57) rfl Try.underlying22 rfl) ?_
                    refine EL_val (ptr b68 3) w271 rfl (r_fieldP (o := 0) (s := 1) (by exact e147) Try.underlying49 rfl (by kernel_rfl) (by decide) rfl) ?_
                    refine EL_val v60 w271 rfl (r_loadA rfl (S272.arr 2 rfl) (u := v60) rfl Try.underlying22 rfl) ?_
                    refine EL_val (ptr b68 4) w271 rfl (r_fieldP (o := 0) (s := 1) (by exact e147) Try.underlying49 rfl (by kernel_rfl) (by decide) rfl) ?_
                    refine EL_val xv w271 rfl (r_loadA rfl (S272.arr 2 rfl) (u := xv) rfl Try.underlying22 rfl) ?_
                    have S274 : Sat w271 I38 (RefT (ptr b21) L :: OwnB v273 (sealB L a2 a48.b x2) :: Suite p20 (sealL L a2 a48.b a48.c x2) :: Blk b68 49 [.int .i64 a48.kind, av, v57, v60, xv, .int .i64 a48.ref, .int .i64 a48.box] :: OwnX 22 bytesR tv tl :: R) := S272.cons_front (i := 4) rfl
                    refine EL_ret _ rfl Try.func23 rfl nm23 rfl (rSeal_c (ptr b21) L av a2 v57 a48.b v60 a48.c xv x2 I38 _ _ S274 H117 (H59.up (Gh.le_trans le14 le45)) (H62.up (Gh.le_trans le14 le45)) H166 (by omega) (by first | assumption | omega | (simp; done) | (simp; omega)) (by first | assumption | omega | (simp; done) | (simp; omega)) (by first | assumption | omega | (simp; done) | (simp; omega)) (by first | assumption | omega | (simp; done) | (simp; omega))) ?_
                    rintro _ w275 ⟨v277, I278, le279, rfl, S276⟩
                    refine EL_val (.tuple #[v277, .int .i64 (sealE a2 a48.b)]) w275 rfl (r_move rfl) ?_
                    refine EL_val v277 w275 rfl (r_extract rfl rfl) ?_
                    refine EL_val (.int .i64 (sealE a2 a48.b)) w275 rfl (r_extract rfl rfl) ?_
                    refine EL_val v277 w275 rfl (r_assign rfl) ?_
                    refine EL_val (.int .i64 (sealE a2 a48.b)) w275 rfl (r_assign rfl) ?_
                    refine EL_nil ?_
                    refine inB_n ?_
                    refine thn_n ?_
                    obtain ⟨I280, le281, S282, H283⟩ : ∃ J : Gh, Gh.le I278 J ∧ Sat w275 J (OwnB v277 (sealB L a2 a48.b x2) :: RefT (ptr b21) (sealL L a2 a48.b a48.c x2) :: Suite p20 (sealL L a2 a48.b a48.c x2) :: Blk b68 49 [.int .i64 a48.kind, av, v57, v60, xv, .int .i64 a48.ref, .int .i64 a48.box] :: OwnX 22 bytesR tv tl :: R) ∧ Ro J v273 ((sealB L a2 a48.b x2).map byt) := S276.frz 2 rfl
                    obtain ⟨I284, le285, S286, H287⟩ : ∃ J : Gh, Gh.le I280 J ∧ Sat w275 J (RefT (ptr b21) (sealL L a2 a48.b a48.c x2) :: Suite p20 (sealL L a2 a48.b a48.c x2) :: Blk b68 49 [.int .i64 a48.kind, av, v57, v60, xv, .int .i64 a48.ref, .int .i64 a48.box] :: OwnX 22 bytesR tv tl :: R) ∧ Ro J v277 ((sealB L a2 a48.b x2).map byt) := S282.frz 0 rfl
                    have S288 : Sat w275 I284 (OwnX 22 bytesR tv tl :: RefT (ptr b21) (sealL L a2 a48.b a48.c x2) :: Suite p20 (sealL L a2 a48.b a48.c x2) :: Blk b68 49 [.int .i64 a48.kind, av, v57, v60, xv, .int .i64 a48.ref, .int .i64 a48.box] :: R) := S286.cons_front (i := 3) rfl
                    have S289 : Sat w275 I284 (Blk b68 49 [.int .i64 a48.kind, av, v57, v60, xv, .int .i64 a48.ref, .int .i64 a48.box] :: OwnX 22 bytesR tv tl :: RefT (ptr b21) (sealL L a2 a48.b a48.c x2) :: Suite p20 (sealL L a2 a48.b a48.c x2) :: R) := S288.cons_front (i := 3) rfl
                    have S290 : Sat w275 I284 (RefT (ptr b21) (sealL L a2 a48.b a48.c x2) :: Blk b68 49 [.int .i64 a48.kind, av, v57, v60, xv, .int .i64 a48.ref, .int .i64 a48.box] :: OwnX 22 bytesR tv tl :: Suite p20 (sealL L a2 a48.b a48.c x2) :: R) := S289.cons_front (i := 2) rfl
                    have S291 : Sat w275 I284 (Suite p20 (sealL L a2 a48.b a48.c x2) :: RefT (ptr b21) (sealL L a2 a48.b a48.c x2) :: Blk b68 49 [.int .i64 a48.kind, av, v57, v60, xv, .int .i64 a48.ref, .int .i64 a48.box] :: OwnX 22 bytesR tv tl :: R) := S290.cons_front (i := 3) rfl
                    exact ⟨v273, v277, (sealB L a2 a48.b x2), (sealE a2 a48.b), (sealL L a2 a48.b a48.c x2), I284, rfl, rfl, rfl, rfl, (by exact e144), (by exact e145), (by exact e146), (by exact e147), (by exact e148), (by exact e149), (by exact e150), (by exact e151), (by exact e152), (by exact e153), (by exact e154), (by exact e155), (by exact e156), (by exact e157), (by exact e158), (by exact e159), (by exact e160), (by exact e161), (by exact e162), (by exact e163), (by exact e164), (by exact e165), rfl, rfl, hPl.sealL, sealL_len, (hTx.sealL (by omega)), (Nat.le_trans sealB_le (by omega)), (Gh.le_trans (Gh.le_trans le279 le281) le285), (H283.up le285), H287, S291⟩
                  · refine EC_seq ?_
                    refine EC_reg ?_
                    refine EL_val (.bool (decide (a48.kind = 5))) w143 rfl (r_eql rfl rfl) ?_
                    refine EL_val (.bool (decide (a48.kind = 5))) w143 rfl (r_assign rfl) ?_
                    refine EL_nil ?_
                    refine thn_n ?_
                    refine EC_if (p := a48.kind = 5) rfl (fun h292 => ?_) (fun h292 => ?_)
                    · refine EC_seq ?_
                      refine EC_reg ?_
                      refine EL_val p20 w143 rfl (r_move (by exact e144)) ?_
                      refine EL_val (ptr b68 1) w143 rfl (r_fieldP (o := 0) (s := 1) (by exact e147) Try.underlying49 rfl (by kernel_rfl) (by decide) rfl) ?_
                      refine EL_val av w143 rfl (r_loadA rfl (S167.arr 0 rfl) (u := av) rfl Try.underlying22 rfl) ?_
                      refine EL_val (ptr b68 2) w143 rfl (r_fieldP (o := 0) (s := 1) (by exact e147) Try.underlying49 rfl (by kernel_rfl) (by decide) rfl) ?_
                      refine EL_val v57 w143 rfl (r_loadA rfl (S167.arr 0 rfl) (u := v57) rfl Try.underlying22 rfl) ?_
                      refine EL_val (ptr b68 3) w143 rfl (r_fieldP (o := 0) (s := 1) (by exact e147) Try.underlying49 rfl (by kernel_rfl) (by decide) rfl) ?_
                      refine EL_val v60 w143 rfl (r_loadA rfl (S167.arr 0 rfl) (u := v60) rfl Try.underlying22 rfl) ?_
                      refine EL_val (ptr b68 4) w143 rfl (r_fieldP (o := 0) (s := 1) (by exact e147) Try.underlying49 rfl (by kernel_rfl) (by decide) rfl) ?_
                      refine EL_val xv w143 rfl (r_loadA rfl (S167.arr 0 rfl) (u := xv) rfl Try.underlying22 rfl) ?_
                      have S293 : Sat w143 I38 (Suite p20 L :: Blk b68 49 [.int .i64 a48.kind, av, v57, v60, xv, .int .i64 a48.ref, .int .i64 a48.box] :: OwnX 22 bytesR tv tl :: RefT (ptr b21) L :: R) := S167.cons_front (i := 2) rfl
                      refine EL_ret _ rfl Try.func18 rfl nm18 rfl (Open_c p20 L av a2 v57 a48.b v60 a48.c xv x2 I38 _ _ S293 H117 (H59.up (Gh.le_trans le14 le45)) (H62.up (Gh.le_trans le14 le45)) H166 (by omega) (by first | assumption | omega | (simp; done) | (simp; omega)) (by first | assumption | omega | (simp; done) | (simp; omega)) (by first | assumption | omega | (simp; done) | (simp; omega)) (by first | assumption | omega | (simp; done) | (simp; omega)) (fun t h => Nat.le_trans (hTx t h) (by decide))) ?_
                      rintro _ w294 ⟨v296, I297, le298, rfl, H299, S295⟩
                      refine EL_val (.tuple #[v296, .int .i64 (openE L a2 a48.b a48.c x2)]) w294 rfl (r_move rfl) ?_
                      refine EL_val v296 w294 rfl (r_extract rfl rfl) ?_
                      refine EL_val (.int .i64 (openE L a2 a48.b a48.c x2)) w294 rfl (r_extract rfl rfl) ?_
                      refine EL_val v296 w294 rfl (r_assign rfl) ?_
                      refine EL_val (.int .i64 (openE L a2 a48.b a48.c x2)) w294 rfl (r_assign rfl) ?_
                      refine EL_nil ?_
                      refine thn_n ?_
                      refine EC_reg ?_
                      refine EL_val (ptr b21) w294 rfl (r_move (by exact e145)) ?_
                      refine EL_val (ptr b68 1) w294 rfl (r_fieldP (o := 0) (s := 1) (by exact e147) Try.underlying49 rfl (by kernel_rfl) (by decide) rfl) ?_
                      refine EL_val av w294 rfl (r_loadA rfl (S295.arr 1 rfl) (u := av) rfl Try.underlying22 rfl) ?_
                      refine EL_val (ptr b68 2) w294 rfl (r_fieldP (o := 0) (s := 1) (by exact e147) Try.underlying49 rfl (by kernel_rfl) (by decide) rfl) ?_
                      refine EL_val v57 w294 rfl (r_loadA rfl (S295.arr 1 rfl) (u := v57) rfl Try.underlying22 rfl) ?_
                      refine EL_val (ptr b68 3) w294 rfl (r_fieldP (o := 0) (s := 1) (by exact e147) Try.underlying49 rfl (by kernel_rfl) (by decide) rfl) ?_
                      refine EL_val v60 w294 rfl (r_loadA rfl (S295.arr 1 rfl) (u := v60) rfl Try.underlying22 rfl) ?_
                      refine EL_val (ptr b68 4) w294 rfl (r_fieldP (o := 0) (s := 1) (by exact e147) Try.underlying49 rfl (by kernel_rfl) (by decide) rfl) ?_
                      refine EL_val xv w294 rfl (r_loadA rfl (S295.arr 1 rfl) (u := xv) rfl Try.underlying22 rfl) ?_
                      have S300 : Sat w294 I297 (RefT (ptr b21) L :: Suite p20 L :: Blk b68 49 [.int .i64 a48.kind, av, v57, v60, xv, .int .i64 a48.ref, .int .i64 a48.box] :: OwnX 22 bytesR tv tl :: R) := S295.cons_front (i := 3) rfl
                      refine EL_ret _ rfl Try.func24 rfl nm24 rfl (rOpen_c (ptr b21) L av a2 v57 a48.b v60 a48.c xv x2 I297 _ _ S300 (H117.up le298) (H59.up (Gh.le_trans (Gh.le_trans le14 le45) le298)) (H62.up (Gh.le_trans (Gh.le_trans le14 le45) le298)) (H166.up le298) (by omega) (by first | assumption | omega | (simp; done) | (simp; omega)) (by first | assumption | omega | (simp; done) | (simp; omega)) (by first | assumption | omega | (simp; done) | (simp; omega)) (by first | assumption | omega | (simp; done) | (simp; omega)) (fun t h => Nat.le_trans (hTx t h) (by decide))) ?_
                      rintro _ w301 ⟨v303, I304, le305, rfl, H306, S302⟩
                      refine EL_val (.tuple #[v303, .int .i64 (openE L a2 a48.b a48.c x2)]) w301 rfl (r_move rfl) ?_
                      refine EL_val v303 w301 rfl (r_extract rfl rfl) ?_
                      refine EL_val (.int .i64 (openE L a2 a48.b a48.c x2)) w301 rfl (r_extract rfl rfl) ?_
                      refine EL_val v303 w301 rfl (r_assign rfl) ?_
                      refine EL_val (.int .i64 (openE L a2 a48.b a48.c x2)) w301 rfl (r_assign rfl) ?_
                      refine EL_nil ?_
                      refine inB_n ?_
                      refine thn_n ?_
                      have S307 : Sat w301 I304 (OwnX 22 bytesR tv tl :: RefT (ptr b21) L :: Suite p20 L :: Blk b68 49 [.int .i64 a48.kind, av, v57, v60, xv, .int .i64 a48.ref, .int .i64 a48.box] :: R) := S302.cons_front (i := 3) rfl
                      have S308 : Sat w301 I304 (Blk b68 49 [.int .i64 a48.kind, av, v57, v60, xv, .int .i64 a48.ref, .int .i64 a48.box] :: OwnX 22 bytesR tv tl :: RefT (ptr b21) L :: Suite p20 L :: R) := S307.cons_front (i := 3) rfl
                      have S309 : Sat w301 I304 (RefT (ptr b21) L :: Blk b68 49 [.int .i64 a48.kind, av, v57, v60, xv, .int .i64 a48.ref, .int .i64 a48.box] :: OwnX 22 bytesR tv tl :: Suite p20 L :: R) := S308.cons_front (i := 2) rfl
                      have S310 : Sat w301 I304 (Suite p20 L :: RefT (ptr b21) L :: Blk b68 49 [.int .i64 a48.kind, av, v57, v60, xv, .int .i64 a48.ref, .int .i64 a48.box] :: OwnX 22 bytesR tv tl :: R) := S309.cons_front (i := 3) rfl
                      exact ⟨v296, v303, (openB L a2 a48.b a48.c x2), (openE L a2 a48.b a48.c x2), L, I304, rfl, rfl, rfl, rfl, (by exact e144), (by exact e145), (by exact e146), (by exact e147), (by exact e148), (by exact e149), (by exact e150), (by exact e151), (by exact e152), (by exact e153), (by exact e154), (by exact e155), (by exact e156), (by exact e157), (by exact e158), (by exact e159), (by exact e160), (by exact e161), (by exact e162), (by exact e163), (by exact e164), (by exact e165), rfl, rfl, hPl, (by omega), hTx, (openB_le hTx), (Gh.le_trans le298 le305), (H299.up le305), H306, S310⟩
                    · refine EC_exit ?_
                      refine inB_miss rfl ?_
                      refine thn_x ?_
                      refine thn_x ?_
                      refine inB_hit ?_
                      refine thn_n ?_
                      refine EC_reg ?_
                      refine EL_int ((j : Int) + 1) rfl (r_addi (by exact e150) rfl (by omega)) ?_
                      intro x311 hx311
                      refine EL_val (.int .i64 x311) w143 rfl (r_move rfl) ?_
                      refine EL_nil ?_
                      refine thn_n ?_
                      have S312 : Sat w143 I38 (OwnX 22 bytesR tv tl :: Suite p20 L :: RefT (ptr b21) L :: R) := S167.drop 0 rfl
                      refine ⟨_, ?_, j + 1, L, tv, tl, I38, rfl, (Eq.trans (show _ = Value.int .i64 x311 from rfl) (congrArg _ (by omega))), (by exact e146), (by exact e144), (by exact e145), (by exact e148), (by exact e149), by omega, hPl, by omega, hTx, hTl, by omega, le45, S312⟩
                      first | omega | (simp; omega)
          · rintro E313 w314 ⟨yv, zv, y, er, L2, I315, e316, e317, e318, e319, e320, e321, e322, e323, e324, e325, e326, e327, e328, e329, e330, e331, e332, e333, e334, e335, e336, e337, e338, e339, e340, e341, e342, e343, hPl2, hLl2, hTx2, hy, le344, H345, H346, S347⟩
            refine thn_n ?_
            refine EC_seq ?_
            refine EC_seq ?_
            have S348 : Sat w314 I315 (RefT (ptr b21) L2 :: Suite p20 L2 :: Blk b68 49 [.int .i64 a48.kind, av, v57, v60, xv, .int .i64 a48.ref, .int .i64 a48.box] :: OwnX 22 bytesR tv tl :: R) := S347.cons_front (i := 1) rfl
            obtain ⟨lv350, S349⟩ := RefT.at S348
            skip
            · refine EC_quietB (by kernel_rfl) (by kernel_rfl) ?_
              refine EQ_val (.int .i64 er) rfl (fun _ hw => r_move (by exact e318)) ?_
              refine EQ_val (.int .i64 er) rfl (fun _ hw => r_move (by exact e319)) ?_
              refine EQ_val (.bool false) rfl (fun _ hw => r_dec (show (decide (er ≠ er)) = false from by simp) (r_neq rfl rfl)) ?_
              refine EQ_val (.bool false) rfl (fun _ hw => r_move rfl) ?_
              refine EQ_gval 158 rfl rfl rfl rfl yv rfl (fun _ hw => r_move (by exact e316)) ?_
              refine EQ_gval 158 rfl rfl rfl rfl (.string (str y)) rfl (fun _ hw => r_str rfl ((H345 _ S349.le).below hw) Try.underlying22 Try.underlying5 Try.underlying9) ?_
              refine EQ_gval 158 rfl rfl rfl rfl zv rfl (fun _ hw => r_move (by exact e317)) ?_
              refine EQ_gval 158 rfl rfl rfl rfl (.string (str y)) rfl (fun _ hw => r_str rfl ((H346 _ S349.le).below hw) Try.underlying22 Try.underlying5 Try.underlying9) ?_
              refine EQ_gval 158 rfl rfl rfl rfl (.bool false) rfl (fun _ hw => r_dec (show decide (y ≠ y) = false from by simp) (r_neqs rfl rfl)) ?_
              refine EQ_val (.bool false) rfl (fun _ hw => r_pickF rfl rfl) ?_
              refine EQ_val (.bool false) rfl (fun _ hw => r_move rfl) ?_
              refine EQ_gval 165 rfl rfl rfl rfl p20 rfl (fun _ hw => r_move (by exact e320)) ?_
              refine EQ_un 165 rfl rfl rfl rfl ?_
              have S351 : Sat w314 I315 (Suite p20 L2 :: Blk b21 47 [lv350] :: OwnX 72 thR lv350 L2 :: Blk b68 49 [.int .i64 a48.kind, av, v57, v60, xv, .int .i64 a48.ref, .int .i64 a48.box] :: OwnX 22 bytesR tv tl :: R) := S349.cons_front (i := 2) rfl
              refine EQ_call (.int .i64 (L2.length : Int)) _ rfl Try.func17 rfl nm17 rfl (fun w2 hw => (Count_c p20 L2 _ _ _ (S351.below hw) (by omega)).mono ?_) ?_
              · rintro _ _ ⟨rfl, B352⟩
                exact ⟨rfl, below_full hw hw.size B352⟩
              refine EQ_gval 165 rfl rfl rfl rfl (ptr b21) rfl (fun _ hw => r_move (by exact e321)) ?_
              refine EQ_gval 165 rfl rfl rfl rfl (ptr b21) rfl (fun _ hw => r_nil rfl) ?_
              refine EQ_gval 165 rfl rfl rfl rfl (ptr b21 0) rfl (fun _ hw => r_fieldP (o := 0) (s := 1) rfl Try.underlying47 rfl (by kernel_rfl) (by decide) rfl) ?_
              refine EQ_gval 165 rfl rfl rfl rfl lv350 rfl (fun _ hw => r_loadA rfl ((S351.arr 1 rfl).below hw) (u := lv350) rfl Try.underlying45 rfl) ?_
              refine EQ_gval 165 rfl rfl rfl rfl (.int .i64 (L2.length : Int)) rfl (fun _ hw => r_lenX rfl (XRow.below (OwnX.row S351 2 rfl (by decide)).1 (hp_below hw)) Try.underlying45) ?_
              refine EQ_gval 165 rfl rfl rfl rfl (.bool false) rfl (fun _ hw => r_dec (show (decide ((L2.length : Int) ≠ (L2.length : Int))) = false from by simp) (r_neq rfl rfl)) ?_
              refine EQ_val (.bool false) rfl (fun _ hw => r_pickF rfl rfl) ?_
              refine EQ_nil ?_
              intro w354 B355
              have S356 : Sat w354 I315 (Suite p20 L2 :: Blk b21 47 [lv350] :: OwnX 72 thR lv350 L2 :: Blk b68 49 [.int .i64 a48.kind, av, v57, v60, xv, .int .i64 a48.ref, .int .i64 a48.box] :: OwnX 22 bytesR tv tl :: R) := S351.below B355
              refine thn_n ?_
              refine EC_cond_false rfl ?_
              refine EC_skip ?_
              refine thn_n ?_
              refine EC_reg ?_
              refine EL_val tv w354 rfl (r_move (by exact e322)) ?_
              refine EL_val zv w354 rfl (r_move (by exact e317)) ?_
              refine EL_lit1 (l := [(0, zv)]) w354.heap.size [zv] el_36 rfl (by decide) rfl (Nat.le_refl _) (parts1 rfl) (Eq.trans (show Instr.fill _ _ [(0, zv)] = _ from (fill_one rfl (row_cells (H346 _ S356.le)) (by kernel_rfl) fill_end)) (by kernel_rfl)) ?_
              intro v357 w358 O359 B360 k361
              have S362 : Sat w358 I315 (OwnX 22 bytesR v357 [y] :: Suite p20 L2 :: Blk b21 47 [lv350] :: OwnX 72 thR lv350 L2 :: Blk b68 49 [.int .i64 a48.kind, av, v57, v60, xv, .int .i64 a48.ref, .int .i64 a48.box] :: OwnX 22 bytesR tv tl :: R) := OwnX.cls (xss := [[zv]]) (.cons ⟨_, rfl, (row_one (H346 _ S356.le)), H346⟩ .nil) (S356.newO B360 O359)
              have oH369 := (OwnX.one S362 0 rfl (by decide))
              obtain ⟨I366, le367, S368, H369⟩ : ∃ J : Gh, Gh.le I315 J ∧ Sat w358 J (Suite p20 L2 :: Blk b21 47 [lv350] :: OwnX 72 thR lv350 L2 :: Blk b68 49 [.int .i64 a48.kind, av, v57, v60, xv, .int .i64 a48.ref, .int .i64 a48.box] :: OwnX 22 bytesR tv tl :: R) ∧ RoX J v357 bytesR [y] := OwnX.frz S362 0 rfl (by decide)
              have S370 : Sat w358 I366 (OwnX 22 bytesR tv tl :: Suite p20 L2 :: Blk b21 47 [lv350] :: OwnX 72 thR lv350 L2 :: Blk b68 49 [.int .i64 a48.kind, av, v57, v60, xv, .int .i64 a48.ref, .int .i64 a48.box] :: R) := S368.cons_front (i := 4) rfl
              refine EL_appX (z := (.slice none 0 0)) (bytes := 24) rfl Try.underlying36 (by kernel_rfl) rfl (by decide) rfl rfl S370 H369 (by first | omega | (simp; omega)) (by first | omega | (simp; omega)) ?_
              intro v363 w364 S365
              refine EL_val v363 w364 rfl (r_assign rfl) ?_
              refine EL_nil ?_
              refine inB_n ?_
              refine thn_n ?_
              refine EC_reg ?_
              refine EL_int ((j : Int) + 1) rfl (r_addi (by exact e326) rfl (by omega)) ?_
              intro x371 hx371
              refine EL_val (.int .i64 x371) w364 rfl (r_move rfl) ?_
              refine EL_nil ?_
              refine thn_n ?_
              have S372 : Sat w364 I366 (OwnX 72 thR lv350 L2 :: OwnX 22 bytesR v363 (tl ++ [y]) :: Suite p20 L2 :: Blk b21 47 [lv350] :: Blk b68 49 [.int .i64 a48.kind, av, v57, v60, xv, .int .i64 a48.ref, .int .i64 a48.box] :: R) := S365.cons_front (i := 3) rfl
              have S373 : Sat w364 I366 (Blk b21 47 [lv350] :: OwnX 72 thR lv350 L2 :: OwnX 22 bytesR v363 (tl ++ [y]) :: Suite p20 L2 :: Blk b68 49 [.int .i64 a48.kind, av, v57, v60, xv, .int .i64 a48.ref, .int .i64 a48.box] :: R) := S372.cons_front (i := 3) rfl
              have S374 : Sat w364 I366 (RefT (ptr b21) L2 :: OwnX 22 bytesR v363 (tl ++ [y]) :: Suite p20 L2 :: Blk b68 49 [.int .i64 a48.kind, av, v57, v60, xv, .int .i64 a48.ref, .int .i64 a48.box] :: R) := RefT.cls S373
              have S375 : Sat w364 I366 (RefT (ptr b21) L2 :: OwnX 22 bytesR v363 (tl ++ [y]) :: Suite p20 L2 :: R) := S374.drop 3 rfl
              have S376 : Sat w364 I366 (RefT (ptr b21) L2 :: OwnX 22 bytesR v363 (tl ++ [y]) :: Suite p20 L2 :: R) := S375.cons_front (i := 0) rfl
              have S377 : Sat w364 I366 (Suite p20 L2 :: RefT (ptr b21) L2 :: OwnX 22 bytesR v363 (tl ++ [y]) :: R) := S376.cons_front (i := 2) rfl
              have S378 : Sat w364 I366 (OwnX 22 bytesR v363 (tl ++ [y]) :: Suite p20 L2 :: RefT (ptr b21) L2 :: R) := S377.cons_front (i := 2) rfl
              refine ⟨_, ?_, j + 1, L2, v363, tl ++ [y], I366, rfl, (Eq.trans (show _ = Value.int .i64 x371 from rfl) (congrArg _ (by omega))), rfl, (by exact e320), (by exact e321), (by exact e324), (by exact e325), by omega, hPl2, by omega, hTx2, (all_snoc hTl hy), (by simp; omega), (Gh.le_trans (Gh.le_trans le45 le344) le367), S378⟩
              first | omega | (simp; omega)
    · refine EC_exit ?_
      refine thn_x ?_
      refine thn_x ?_
      refine inB_hit ?_
      refine thn_n ?_
      refine EC_seq ?_
      refine EC_reg ?_
      refine EL_val (.bool true) w37 rfl (r_assign rfl) ?_
      refine EL_nil ?_
      refine thn_n ?_
      refine EC_ret ?_
      refine fin1 Try.results8 (show _ = .bool true from rfl) ⟨_, rfl, ?_⟩
      have S379 : Sat w37 I38 (Suite p20 L :: RefT (ptr b21) L :: R) := S46.drop 0 rfl
      have S380 : Sat w37 I38 (RefT (ptr b21) L :: R) := S379.drop 0 rfl
      have S381 : Sat w37 I38 (R) := S380.drop 0 rfl
      exact ⟨I38, (Gh.le_trans le14 le45), rfl, S381⟩
theorem SuiteSigns_c (v0 : Value) (ops : (List LOp)) (w : World) (H0 : RoX (gh w) v0 opR ops) : Ret Try.prog 8 [v0] w fun v w' => v = .bool true ∧ Below w.heap.size w w' :=
  (SuiteSigns_w v0 ops (gh w) [] w (Sat.start w) H0).mono fun v w' h => by obtain ⟨J, le, e, S⟩ := h; exact ⟨e.symm, S.fin le⟩
theorem own : ownKnob Try.prog.godebug = none := by kernel_rfl
theorem laidOut : laidOutB Try.prog = true := by kernel_rfl
set_option maxRecDepth 100000 in
theorem lifted (os : Os) (started : os.Started) (H : Type) (enc : TypeId × Value → H) :
    ReturnsInHanded {} Try.checked os 8 .any (Rows.suiteSignsSpec.pre6 enc Try.prog Try.f8 Rows.suiteSignsRow.domain false) (Rows.suiteSignsSpec.post enc Try.prog Try.f8 false true false false) := by
  refine returnsInHanded_of_change (C := Try.checked) own started (by kernel_rfl) Try.func8
    (ChangeSpec.witness6 (enc := enc) (C := Try.checked) false ⟨#[], #[.slice none 0 0], []⟩ 8 (by kernel_rfl) (by kernel_rfl) (by kernel_rfl) (by kernel_rfl)) ?_
  intro W base args ds gs before hval0 hW hcnd _
  have hval : ∀ (j : Nat) t v, Try.f8.params[j]? = some t → args[j]? = some v → Value.okWide Try.prog W .any base t v := hval0
  have hW' := hW
  obtain ⟨p, q, hA0, hV, rfl, hfz, hnd⟩ := hW
  have hA : DataW.TrodAll enc Try.prog W 0 (fun _ => true) true Try.f8.params.toList args.toList ds p := hA0
  rw [Try.params8] at hA hval
  obtain ⟨v0, vs0, d0, ds0, p0, q0, hargs, rfl, rfl, h0, r0⟩ := trodAll_cons hA
  obtain ⟨rfl, rfl, rfl⟩ := trodAll_nil r0
  obtain rfl : args = #[v0] := by cases args; simp_all
  obtain ⟨rfl, rfl⟩ := trodVars_none hV
  have k0 := h0
  have lt0 : ∀ x ∈ p0, x.block < W.heap.size := by obtain ⟨m, hm⟩ := k0; exact DataW.trod_lt m _ _ _ hm
  obtain ⟨a0, len0, cap0, rfl⟩ := okWide_slice Try.underlying42 (hval 0 42 v0 rfl rfl)
  obtain ⟨b0, H0⟩ : ∃ l, RoX (gh W) (.slice a0 len0 cap0) opR l := by
    obtain ⟨fuel, hf⟩ := h0
    obtain ⟨l, v, hv, _, H⟩ := (Opn.list (τ := opR) Try.underlying42 (by kernel_rfl) (by decide) opn_49) _ W _ _ _ _ _ hf
    simp [Value.cells] at hv
    subst hv
    exact ⟨l, H⟩
  clear hA0 hval0
  refine Calls.mono (SuiteSigns_c (.slice a0 len0 cap0) b0 W H0) fun e W' ⟨v', he, hv, bel⟩ => ?_
  subst he
  subst hv
  exact ⟨_, rfl, _, _, _, [], _, [], hW', trodAll_mk1 (shut_bool Try.underlying4 _), (trodAll_cons_mk (Below.trod laidOut (by kernel_rfl) (of_decide_eq_true (by kernel_rfl)) k0 bel lt0) trodAll_mk0), rfl, bel.frame _, fun h => by cases h⟩
theorem over : Rows.suiteSignsRow.holds Try.pinned (OpenSpec.ofChange Rows.suiteSignsSpec) :=
  OpenClaim.holds_of_wide 8 Try.f8 rfl rfl rfl rfl rfl rfl rfl ⟨rfl, rfl, rfl, rfl, rfl⟩ rfl rfl rfl rfl rfl (by kernel_rfl) Try.func8 (by kernel_rfl)
    (of_decide_eq_true (by kernel_rfl)) (by unfold Func.isWrapper; first | (rw [if_pos (by decide +kernel)]; kernel_rfl) | (rw [if_neg (by decide +kernel)]; exact ⟨rfl, rfl⟩))
    (fun os started H enc _ => lifted os started H enc)
end Go.Proofs.Ytamjafnjohiccaa.suiteSigns
namespace Go.Proofs.Ytamjafnjohiccaa
theorem SuiteSigns_holds : Rows.SuiteSignsSaid := suiteSigns.over
end Go.Proofs.Ytamjafnjohiccaa
