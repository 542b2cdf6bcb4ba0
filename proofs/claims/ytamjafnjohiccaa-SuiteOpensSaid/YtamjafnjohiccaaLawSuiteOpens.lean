/-
  Of signs a box is opened with just the key, the nonce and the other bytes with which it was made, and as it was made.
  Its conditions: none: whatever the input, in whatever memory.
-/
import Derived.Test.YtamjafnjohiccaaRows
import Derived.Test.YtamjafnjohiccaaWalksC
import Derived.ProofKit
import Derived.OpenShut
import Derived.ShutString
import Derived.ChangeOld
set_option linter.unusedVariables false
set_option linter.unusedSimpArgs false
namespace Go.Proofs.Ytamjafnjohiccaa.suiteOpens
open Go.ChangeShapes Go.WideShapes Go.ChangeAt Go.RowKit Go.Ecal
open Go.ChangeMaps (open_string shut_string)
set_option maxRecDepth 100000 in
set_option maxHeartbeats 4000000 in
theorem SuiteOpens_w (v0 : Value) (text : List UInt8) (nonce : List UInt8) (v2 : Value) (other : List UInt8) (which : Int) (at1 : Int) (x : UInt8) (I : Gh) (R : List HP) (w : World) (S : Sat w I (R)) (Q0 : RoB I v0 text) (Q1 : RoB I v2 other) (lnonce : nonce.length = 12) (rwhich : -9223372036854775808 ≤ which ∧ which ≤ 9223372036854775807) (rat1 : -9223372036854775808 ≤ at1 ∧ at1 ≤ 9223372036854775807) : Ret Try.prog 7 [v0, .agg (nonce.map byt).toArray, v2, .int .i64 which, .int .i64 at1, .int .u8 (x.toNat : Int)] w fun v w' => ∃ J : Gh, Gh.le I J ∧ .bool true = v ∧ Sat w' J (R) := by
  have lq0 := RoB.le Q0 S.le
  have lq1 := RoB.le Q1 S.le
  have lb_x := x.toNat_lt
  refine ret_E Try.func7 rfl Try.ntmps7 (by simp) ?_
  refine EC_seq ?_
  refine EC_reg ?_
  refine EL_box (nonce.map byt) rfl rfl rfl ?_
  intro b11 w12 k13 A14 B15 z16
  have S17 : Sat w12 I (Blk b11 39 (nonce.map byt) :: R) := S.newB B15 A14 k13
  refine EL_val (.bool false) w12 rfl (r_assign rfl) ?_
  refine EL_nil ?_
  refine thn_n ?_
  refine EC_seq ?_
  refine EC_seq ?_
  refine EC_reg ?_
  refine EL_ret [] rfl Try.func10 rfl nm10 rfl (anchor_c I _ _ S17) ?_
  rintro _ w18 ⟨I20, le21, rfl, S19⟩
  refine EL_val (.bool false) w18 rfl (r_dec (show (!true) = false from rfl) (r_not rfl)) ?_
  refine EL_nil ?_
  refine thn_n ?_
  refine EC_cond_false rfl ?_
  refine EC_skip ?_
  refine thn_n ?_
  refine EC_seq ?_
  refine EC_seq ?_
  refine EC_reg ?_
  refine EL_val v0 w18 rfl (r_move rfl) ?_
  refine EL_val (.int .i64 (text.length : Int)) w18 rfl (lenB (r_len rfl (Q0 _ (Gh.le_trans le21 S19.le)) Try.underlying22)) ?_
  refine EL_val (.bool (decide (100 < (text.length : Int)))) w18 rfl (r_gtr rfl rfl) ?_
  refine EL_val (.bool (decide (100 < (text.length : Int)))) w18 rfl (r_move rfl) ?_
  refine EL_gite 26 rfl rfl rfl v2 rfl (fun g22 => r_move rfl) ?_
  refine EL_gite 26 rfl rfl rfl (.int .i64 (other.length : Int)) rfl (fun g23 => lenB (r_len (cond_of g23 rfl) (Q1 _ (Gh.le_trans le21 S19.le)) Try.underlying22)) ?_
  refine EL_gite 26 rfl rfl rfl (.bool (decide (100 < (other.length : Int)))) rfl (fun g24 => r_gtr (cond_of g24 rfl) rfl) ?_
  refine EL_val (.bool ((decide (100 < (text.length : Int))) || (decide (100 < (other.length : Int))))) w18 rfl (r_or rfl rfl rfl) ?_
  refine EL_val (.bool ((decide (100 < (text.length : Int))) || (decide (100 < (other.length : Int))))) w18 rfl (r_move rfl) ?_
  refine EL_gite 31 rfl rfl rfl (.int .i64 which) rfl (fun g25 => r_move rfl) ?_
  refine EL_gite 31 rfl rfl rfl (.bool (decide (which < 0))) rfl (fun g26 => r_lss (cond_of g26 rfl) rfl) ?_
  refine EL_val (.bool (((decide (100 < (text.length : Int))) || (decide (100 < (other.length : Int)))) || (decide (which < 0)))) w18 rfl (r_or rfl rfl rfl) ?_
  refine EL_val (.bool (((decide (100 < (text.length : Int))) || (decide (100 < (other.length : Int)))) || (decide (which < 0)))) w18 rfl (r_move rfl) ?_
  refine EL_gite 35 rfl rfl rfl (.int .i64 which) rfl (fun g27 => r_move rfl) ?_
  refine EL_gite 35 rfl rfl rfl (.bool (decide (4 < which))) rfl (fun g28 => r_gtr (cond_of g28 rfl) rfl) ?_
  refine EL_val (.bool ((((decide (100 < (text.length : Int))) || (decide (100 < (other.length : Int)))) || (decide (which < 0))) || (decide (4 < which)))) w18 rfl (r_or rfl rfl rfl) ?_
  refine EL_val (.bool ((((decide (100 < (text.length : Int))) || (decide (100 < (other.length : Int)))) || (decide (which < 0))) || (decide (4 < which)))) w18 rfl (r_move rfl) ?_
  refine EL_gite 39 rfl rfl rfl (.int .i64 at1) rfl (fun g29 => r_move rfl) ?_
  refine EL_gite 39 rfl rfl rfl (.bool (decide (at1 < 0))) rfl (fun g30 => r_lss (cond_of g30 rfl) rfl) ?_
  refine EL_val (.bool (((((decide (100 < (text.length : Int))) || (decide (100 < (other.length : Int)))) || (decide (which < 0))) || (decide (4 < which))) || (decide (at1 < 0)))) w18 rfl (r_or rfl rfl rfl) ?_
  refine EL_val (.bool (((((decide (100 < (text.length : Int))) || (decide (100 < (other.length : Int)))) || (decide (which < 0))) || (decide (4 < which))) || (decide (at1 < 0)))) w18 rfl (r_move rfl) ?_
  refine EL_gite 43 rfl rfl rfl (.int .u8 (x.toNat : Int)) rfl (fun g31 => r_move rfl) ?_
  refine EL_gite 43 rfl rfl rfl (.bool (decide ((x.toNat : Int) = 0))) rfl (fun g32 => r_eql (cond_of g32 rfl) rfl) ?_
  refine EL_val (.bool ((((((decide (100 < (text.length : Int))) || (decide (100 < (other.length : Int)))) || (decide (which < 0))) || (decide (4 < which))) || (decide (at1 < 0))) || (decide ((x.toNat : Int) = 0)))) w18 rfl (r_or rfl rfl rfl) ?_
  refine EL_nil ?_
  refine thn_n ?_
  refine EC_cond (t := (((((decide (100 < (text.length : Int))) || (decide (100 < (other.length : Int)))) || (decide (which < 0))) || (decide (4 < which))) || (decide (at1 < 0))) || (decide ((x.toNat : Int) = 0))) rfl (fun h33 => ?_) (fun h33 => ?_)
  · simp at h33
    refine EC_seq ?_
    refine EC_reg ?_
    refine EL_val (.bool true) w18 rfl (r_assign rfl) ?_
    refine EL_nil ?_
    refine thn_n ?_
    refine EC_ret ?_
    refine thn_r ?_
    refine fin1 Try.results7 (show _ = .bool true from rfl) ⟨_, rfl, ?_⟩
    have S34 : Sat w18 I20 (R) := S19.drop 0 rfl
    exact ⟨I20, le21, rfl, S34⟩
  · simp at h33
    have hx0 : ¬ ((x.toNat : Int) = 0) := by simpa using h33.2
    refine EC_skip ?_
    refine thn_n ?_
    refine EC_seq ?_
    refine EC_reg ?_
    refine EL_ret [] rfl Try.func11 rfl nm11 rfl (Signs_c I20 _ _ S19) ?_
    rintro _ w35 ⟨p37, rfl, S36⟩
    refine EL_val p37 w35 rfl (r_assign rfl) ?_
    refine EL_nil ?_
    refine thn_n ?_
    refine EC_seq ?_
    refine EC_reg ?_
    refine EL_val p37 w35 rfl (r_move rfl) ?_
    refine EL_ret [p37] rfl Try.func14 rfl nm14 rfl (Key_c p37 ([] : List Thing) I20 _ _ S36 (by simp)) ?_
    rintro _ w38 ⟨v40, rfl, S39⟩
    have q42 : signOf 75 ((([] : List Thing).length : Int) + 1) = signOf 75 1 := rfl
    have S41 : Sat w38 I20 (OwnB v40 (signOf 75 1) :: Suite p37 (([] : List Thing) ++ [tKey]) :: Blk b11 39 (nonce.map byt) :: R) := S39.as 0 rfl (congrArg (fun zz => OwnB v40 zz) q42)
    have q44 : ([] : List Thing) ++ [tKey] = [tKey] := rfl
    have S43 : Sat w38 I20 (OwnB v40 (signOf 75 1) :: Suite p37 [tKey] :: Blk b11 39 (nonce.map byt) :: R) := S41.as 1 rfl (congrArg (fun zz => Suite p37 zz) q44)
    have lk : (signOf 75 1).length = 32 := rfl
    refine EL_val v40 w38 rfl (r_assign rfl) ?_
    refine EL_nil ?_
    refine thn_n ?_
    refine EC_seq ?_
    refine EC_reg ?_
    refine EL_val p37 w38 rfl (r_move rfl) ?_
    refine EL_val v40 w38 rfl (r_move rfl) ?_
    obtain ⟨I45, le46, S47, H48⟩ : ∃ J : Gh, Gh.le I20 J ∧ Sat w38 J (OwnB v40 (signOf 75 1) :: Suite p37 [tKey] :: R) ∧ ∀ w', J.le (gh w') → Arr w' b11 39 ((nonce.map byt)) := S43.frzB 2 rfl
    have H49 : RoB I45 (.slice (some ⟨b11, 0, none⟩) 12 12) nonce := frzB_row H48 (by first | assumption | (simp; omega) | simp) (by decide)
    refine EL_val (.slice (some ⟨b11, 0, none⟩) 12 12) w38 rfl (r_sliceA rfl Try.underlying39 (by kernel_rfl)) ?_
    refine EL_val v2 w38 rfl (r_move rfl) ?_
    refine EL_val v0 w38 rfl (r_move rfl) ?_
    have S50 : Sat w38 I45 (OwnB v40 (signOf 75 1) :: Suite p37 [tKey] :: R) := S47.cons_front (i := 0) rfl
    have S51 : Sat w38 I45 (Suite p37 [tKey] :: OwnB v40 (signOf 75 1) :: R) := S50.cons_front (i := 1) rfl
    refine EL_ret [p37, v40, (.slice (some ⟨b11, 0, none⟩) 12 12), v2, v0] rfl Try.func16 rfl nm16 rfl (SealKOk_c p37 [tKey] v40 (signOf 75 1) (.slice (some ⟨b11, 0, none⟩) 12 12) nonce v2 other v0 text I45 _ _ S51 H49 (Q1.up (Gh.le_trans le21 le46)) (Q0.up (Gh.le_trans le21 le46)) (by simp) (by first | (rw [sign_len]; decide) | (rw [List.length_set, sign_len]; decide)) (by first | omega | (simp; omega)) (by first | omega | (simp; omega)) (by first | omega | (rw [box_len]; omega) | (rw [List.length_set, box_len]; omega)) (szOk_iff.2 ⟨by first | rfl | (rw [List.length_set]; rfl), by first | assumption | (simp; omega)⟩)) ?_
    rintro _ w52 ⟨v54, rfl, S53⟩
    have q56 : boxOf (([tKey].length : Int) + 1) text.length = boxOf 2 text.length := rfl
    have S55 : Sat w52 I45 (OwnB v54 (boxOf 2 text.length) :: Suite p37 ([tKey] ++ [tBox (signOf 75 1) nonce other text]) :: OwnB v40 (signOf 75 1) :: R) := S53.as 0 rfl (congrArg (fun zz => OwnB v54 zz) q56)
    have q58 : [tKey] ++ [tBox (signOf 75 1) nonce other text] = [tKey, tBox (signOf 75 1) nonce other text] := rfl
    have S57 : Sat w52 I45 (OwnB v54 (boxOf 2 text.length) :: Suite p37 [tKey, tBox (signOf 75 1) nonce other text] :: OwnB v40 (signOf 75 1) :: R) := S55.as 1 rfl (congrArg (fun zz => Suite p37 zz) q58)
    have lb : (boxOf 2 text.length).length = text.length + 16 := box_len
    refine EL_val (.tuple #[v54, .int .i64 0]) w52 rfl (r_move rfl) ?_
    refine EL_val v54 w52 rfl (r_extract rfl rfl) ?_
    refine EL_val (.int .i64 0) w52 rfl (r_extract rfl rfl) ?_
    refine EL_val v54 w52 rfl (r_assign rfl) ?_
    refine EL_val (.int .i64 0) w52 rfl (r_assign rfl) ?_
    refine EL_nil ?_
    refine thn_n ?_
    refine EC_seq ?_
    refine EC_seq ?_
    refine EC_reg ?_
    refine EL_val (.int .i64 0) w52 rfl (r_move rfl) ?_
    refine EL_val (.bool false) w52 rfl (r_dec (by decide) (r_neq rfl rfl)) ?_
    refine EL_nil ?_
    refine thn_n ?_
    refine EC_cond_false rfl ?_
    refine EC_skip ?_
    refine thn_n ?_
    refine EC_seq ?_
    refine EC_reg ?_
    refine EL_lit w52.heap.size #[] elB rfl (by decide) rfl (Nat.le_refl _) (by kernel_rfl) ?_
    intro v59 w60 O61 B62 k63 z64
    have S65 : Sat w60 I45 (OwnB v59 ([] : List UInt8) :: OwnB v54 (boxOf 2 text.length) :: Suite p37 [tKey, tBox (signOf 75 1) nonce other text] :: OwnB v40 (signOf 75 1) :: R) := S57.newO B62 (own_eq (l := ([] : List UInt8)) O61 (by simp [bof_val, byt]))
    refine EL_val (.slice (some ⟨b11, 0, none⟩) 12 12) w60 rfl (r_sliceA rfl Try.underlying39 (by kernel_rfl)) ?_
    refine EL_append (v := v59) (xs := ([] : List UInt8).map byt) (ys := nonce.map byt) 0 elB rfl rfl rfl (own_len (S65.own 0 rfl)) (H49 _ S65.le) (byt_one _) (by first | (simp only [List.length_map, List.length_nil, List.length_append]; omega) | (simp; done) | (simp; omega)) (by decide) (Nat.zero_le _) ?_
    intro v66 w67 O68 G69 A70
    have S71 : Sat w67 I45 (OwnB v66 (([] : List UInt8) ++ nonce) :: OwnB v54 (boxOf 2 text.length) :: Suite p37 [tKey, tBox (signOf 75 1) nonce other text] :: OwnB v40 (signOf 75 1) :: R) := S65.grow 0 rfl G69 (own_app O68) A70
    refine EL_lit w67.heap.size #[] elB rfl (by decide) rfl (Nat.le_refl _) (by kernel_rfl) ?_
    intro v72 w73 O74 B75 k76 z77
    have S78 : Sat w73 I45 (OwnB v72 ([] : List UInt8) :: OwnB v66 (([] : List UInt8) ++ nonce) :: OwnB v54 (boxOf 2 text.length) :: Suite p37 [tKey, tBox (signOf 75 1) nonce other text] :: OwnB v40 (signOf 75 1) :: R) := S71.newO B75 (own_eq (l := ([] : List UInt8)) O74 (by simp [bof_val, byt]))
    refine EL_val v2 w73 rfl (r_move rfl) ?_
    refine EL_append (v := v72) (xs := ([] : List UInt8).map byt) (ys := other.map byt) 0 elB rfl rfl rfl (own_len (S78.own 0 rfl)) (Q1 _ (Gh.le_trans (Gh.le_trans le21 le46) S78.le)) (byt_one _) (by first | (simp only [List.length_map, List.length_nil, List.length_append]; omega) | (simp; done) | (simp; omega)) (by decide) (Nat.zero_le _) ?_
    intro v79 w80 O81 G82 A83
    have S84 : Sat w80 I45 (OwnB v79 (([] : List UInt8) ++ other) :: OwnB v66 (([] : List UInt8) ++ nonce) :: OwnB v54 (boxOf 2 text.length) :: Suite p37 [tKey, tBox (signOf 75 1) nonce other text] :: OwnB v40 (signOf 75 1) :: R) := S78.grow 0 rfl G82 (own_app O81) A83
    refine EL_val v66 w80 rfl (r_assign rfl) ?_
    refine EL_val v79 w80 rfl (r_assign rfl) ?_
    refine EL_nil ?_
    refine thn_n ?_
    refine EC_seq ?_
    refine EC_seq ?_
    refine EC_reg ?_
    refine EL_val (.int .i64 which) w80 rfl (r_move rfl) ?_
    refine EL_nil ?_
    refine thn_n ?_
    refine EC_block ?_
    refine EC_seq ?_
    refine EC_reg ?_
    refine EL_val (.bool (decide (which = 1))) w80 rfl (r_eql rfl rfl) ?_
    refine EL_val (.bool (decide (which = 1))) w80 rfl (r_assign rfl) ?_
    refine EL_nil ?_
    refine thn_n ?_
    refine EC_if (p := which = 1) rfl (fun h85 => ?_) (fun h85 => ?_)
    · refine EC_reg ?_
      refine EL_val v40 w80 rfl (r_move rfl) ?_
      refine EL_val (.int .i64 at1) w80 rfl (r_move rfl) ?_
      refine EL_int (at1 % 32) rfl (r_remi rfl rfl (by omega) (by omega)) ?_
      intro x86 hx86
      refine EL_val (.pointer (some (at_ v40 ((x86 : Int).toNat)))) w80 rfl (r_index rfl (own_row (S84.own 4 rfl)) rfl (by omega) (by first | omega | (simp; omega) | simp) Try.underlying22 (by kernel_rfl)) ?_
      obtain ⟨b87, hb88⟩ := get_some (l := (signOf 75 1)) (j := (x86 : Int).toNat) (by first | omega | (simp; omega) | simp)
      have hb89 := b87.toNat_lt
      refine EL_val (.int .u8 (b87.toNat : Int)) w80 rfl (r_load rfl ((own_row (S84.own 4 rfl)).cell (bs_get hb88)) Try.underlying5 rfl) ?_
      refine EL_val (.int .u8 (x.toNat : Int)) w80 rfl (r_move rfl) ?_
      refine EL_val (.int .u8 ((b87 ^^^ x).toNat : Int)) w80 rfl (r_xorb (a := b87) (b := x) rfl rfl) ?_
      refine EL_val (.pointer (some (at_ v40 ((x86 : Int).toNat)))) w80 rfl (r_index rfl (own_row (S84.own 4 rfl)) rfl (by omega) (by first | omega | (simp; omega) | simp) Try.underlying22 (by kernel_rfl)) ?_
      refine EL_store (u := byt (b87 ^^^ x)) rfl rfl (S84.own 4 rfl) (by first | omega | (simp; done) | (simp; omega)) rfl (by kernel_rfl) ?_
      intro w90 O91 G92 z93
      have S94 : Sat w90 I45 (OwnB v79 (([] : List UInt8) ++ other) :: OwnB v66 (([] : List UInt8) ++ nonce) :: OwnB v54 (boxOf 2 text.length) :: Suite p37 [tKey, tBox (signOf 75 1) nonce other text] :: OwnB v40 ((signOf 75 1).set ((x86 : Int).toNat) (b87 ^^^ x)) :: R) := S84.grow 4 rfl G92 (own_set O91) (.inl rfl)
      refine EL_nil ?_
      refine inB_n ?_
      refine thn_n ?_
      refine EC_seq ?_
      refine EC_reg ?_
      refine EL_val p37 w90 rfl (r_move rfl) ?_
      refine EL_val v40 w90 rfl (r_move rfl) ?_
      refine EL_val v66 w90 rfl (r_move rfl) ?_
      refine EL_val v79 w90 rfl (r_move rfl) ?_
      refine EL_val v54 w90 rfl (r_move rfl) ?_
      obtain ⟨I95, le96, S97, H98⟩ : ∃ J : Gh, Gh.le I45 J ∧ Sat w90 J (OwnB v79 (([] : List UInt8) ++ other) :: OwnB v66 (([] : List UInt8) ++ nonce) :: OwnB v54 (boxOf 2 text.length) :: Suite p37 [tKey, tBox (signOf 75 1) nonce other text] :: R) ∧ Ro J v40 (((signOf 75 1).set ((x86 : Int).toNat) (b87 ^^^ x)).map byt) := S94.frz 4 rfl
      obtain ⟨I99, le100, S101, H102⟩ : ∃ J : Gh, Gh.le I95 J ∧ Sat w90 J (OwnB v79 (([] : List UInt8) ++ other) :: OwnB v54 (boxOf 2 text.length) :: Suite p37 [tKey, tBox (signOf 75 1) nonce other text] :: R) ∧ Ro J v66 ((([] : List UInt8) ++ nonce).map byt) := S97.frz 1 rfl
      obtain ⟨I103, le104, S105, H106⟩ : ∃ J : Gh, Gh.le I99 J ∧ Sat w90 J (OwnB v54 (boxOf 2 text.length) :: Suite p37 [tKey, tBox (signOf 75 1) nonce other text] :: R) ∧ Ro J v79 ((([] : List UInt8) ++ other).map byt) := S101.frz 0 rfl
      obtain ⟨I107, le108, S109, H110⟩ : ∃ J : Gh, Gh.le I103 J ∧ Sat w90 J (Suite p37 [tKey, tBox (signOf 75 1) nonce other text] :: R) ∧ Ro J v54 ((boxOf 2 text.length).map byt) := S105.frz 0 rfl
      refine EL_ret [p37, v40, v66, v79, v54] rfl Try.func18 rfl nm18 rfl (OpenNo_c p37 [tKey, tBox (signOf 75 1) nonce other text] v40 ((signOf 75 1).set ((x86 : Int).toNat) (b87 ^^^ x)) v66 (([] : List UInt8) ++ nonce) v79 (([] : List UInt8) ++ other) v54 (boxOf 2 text.length) I107 _ _ S109 (H98.up (Gh.le_trans (Gh.le_trans le100 le104) le108)) (H102.up (Gh.le_trans le104 le108)) (H106.up le108) H110 (by simp) (by first | (rw [sign_len]; decide) | (rw [List.length_set, sign_len]; decide)) (by first | omega | (simp; omega)) (by first | omega | (simp; omega)) (by first | omega | (rw [box_len]; omega) | (rw [List.length_set, box_len]; omega)) (small_snoc (L := [tKey]) (small_snoc small_nil (by decide)) (by dsimp only; omega)) (szOk_iff.2 ⟨by first | rfl | (rw [List.length_set]; rfl), by first | assumption | (simp; omega)⟩) (open_only (by rintro ⟨h1, _⟩; exact set_ne hb88 hx0 h1))) ?_
      rintro _ w111 ⟨v113, I114, le115, rfl, H116, S112⟩
      refine EL_val (.tuple #[v113, .int .i64 20]) w111 rfl (r_move rfl) ?_
      refine EL_val v113 w111 rfl (r_extract rfl rfl) ?_
      refine EL_val (.int .i64 20) w111 rfl (r_extract rfl rfl) ?_
      refine EL_val v113 w111 rfl (r_assign rfl) ?_
      refine EL_val (.int .i64 20) w111 rfl (r_assign rfl) ?_
      refine EL_nil ?_
      refine thn_n ?_
      refine EC_seq ?_
      refine EC_seq ?_
      refine EC_reg ?_
      refine EL_val (.int .i64 which) w111 rfl (r_move rfl) ?_
      refine EL_val (.bool (decide (which = 0))) w111 rfl (r_eql rfl rfl) ?_
      refine EL_nil ?_
      refine thn_n ?_
      refine EC_cond_false (Eq.trans (show _ = Value.bool (decide (which = 0)) from rfl) (congrArg Value.bool (show (decide (which = 0)) = false from by simp; omega))) ?_
      refine EC_skip ?_
      refine thn_n ?_
      refine EC_seq ?_
      refine EC_reg ?_
      refine EL_val (.int .i64 20) w111 rfl (r_move rfl) ?_
      refine EL_val (.bool true) w111 rfl (r_dec (by decide) (r_eql rfl rfl)) ?_
      refine EL_val (.bool true) w111 rfl (r_move rfl) ?_
      refine EL_gval 128 rfl rfl rfl rfl v113 w111 rfl (r_move rfl) ?_
      refine EL_gval 128 rfl rfl rfl rfl (.int .i64 ([].length : Int)) w111 rfl (r_len rfl (H116 _ S112.le) Try.underlying22) ?_
      refine EL_gval 128 rfl rfl rfl rfl (.bool (decide (([].length : Int) = 0))) w111 rfl (r_eql rfl rfl) ?_
      refine EL_val (.bool (decide (([].length : Int) = 0))) w111 rfl (r_pickT rfl rfl) ?_
      refine EL_val (.bool (decide (([].length : Int) = 0))) w111 rfl (r_assign rfl) ?_
      refine EL_nil ?_
      refine thn_n ?_
      refine EC_ret ?_
      refine fin1 Try.results7 (show _ = .bool (decide (([].length : Int) = 0)) from rfl) ⟨_, rfl, ?_⟩
      have S117 : Sat w111 I114 (R) := S112.drop 0 rfl
      exact ⟨I114, (Gh.le_trans (Gh.le_trans (Gh.le_trans (Gh.le_trans (Gh.le_trans (Gh.le_trans le21 le46) le96) le100) le104) le108) le115), (by first | rfl | simp), S117⟩
    · refine EC_seq ?_
      refine EC_reg ?_
      refine EL_val (.bool (decide (which = 2))) w80 rfl (r_eql rfl rfl) ?_
      refine EL_val (.bool (decide (which = 2))) w80 rfl (r_assign rfl) ?_
      refine EL_nil ?_
      refine thn_n ?_
      refine EC_if (p := which = 2) rfl (fun h118 => ?_) (fun h118 => ?_)
      · refine EC_reg ?_
        refine EL_val v66 w80 rfl (r_move rfl) ?_
        refine EL_val (.int .i64 at1) w80 rfl (r_move rfl) ?_
        refine EL_int (at1 % 12) rfl (r_remi rfl rfl (by omega) (by omega)) ?_
        intro x119 hx119
        refine EL_val (.pointer (some (at_ v66 ((x119 : Int).toNat)))) w80 rfl (r_index rfl (own_row (S84.own 1 rfl)) rfl (by omega) (by first | omega | (simp; omega) | simp) Try.underlying22 (by kernel_rfl)) ?_
        obtain ⟨b120, hb121⟩ := get_some (l := ([] : List UInt8) ++ nonce) (j := (x119 : Int).toNat) (by first | omega | (simp; omega) | simp)
        have hb122 := b120.toNat_lt
        refine EL_val (.int .u8 (b120.toNat : Int)) w80 rfl (r_load rfl ((own_row (S84.own 1 rfl)).cell (bs_get hb121)) Try.underlying5 rfl) ?_
        refine EL_val (.int .u8 (x.toNat : Int)) w80 rfl (r_move rfl) ?_
        refine EL_val (.int .u8 ((b120 ^^^ x).toNat : Int)) w80 rfl (r_xorb (a := b120) (b := x) rfl rfl) ?_
        refine EL_val (.pointer (some (at_ v66 ((x119 : Int).toNat)))) w80 rfl (r_index rfl (own_row (S84.own 1 rfl)) rfl (by omega) (by first | omega | (simp; omega) | simp) Try.underlying22 (by kernel_rfl)) ?_
        refine EL_store (u := byt (b120 ^^^ x)) rfl rfl (S84.own 1 rfl) (by first | omega | (simp; done) | (simp; omega)) rfl (by kernel_rfl) ?_
        intro w123 O124 G125 z126
        have S127 : Sat w123 I45 (OwnB v79 (([] : List UInt8) ++ other) :: OwnB v66 ((([] : List UInt8) ++ nonce).set ((x119 : Int).toNat) (b120 ^^^ x)) :: OwnB v54 (boxOf 2 text.length) :: Suite p37 [tKey, tBox (signOf 75 1) nonce other text] :: OwnB v40 (signOf 75 1) :: R) := S84.grow 1 rfl G125 (own_set O124) (.inl rfl)
        refine EL_nil ?_
        refine inB_n ?_
        refine thn_n ?_
        refine EC_seq ?_
        refine EC_reg ?_
        refine EL_val p37 w123 rfl (r_move rfl) ?_
        refine EL_val v40 w123 rfl (r_move rfl) ?_
        refine EL_val v66 w123 rfl (r_move rfl) ?_
        refine EL_val v79 w123 rfl (r_move rfl) ?_
        refine EL_val v54 w123 rfl (r_move rfl) ?_
        obtain ⟨I128, le129, S130, H131⟩ : ∃ J : Gh, Gh.le I45 J ∧ Sat w123 J (OwnB v79 (([] : List UInt8) ++ other) :: OwnB v66 ((([] : List UInt8) ++ nonce).set ((x119 : Int).toNat) (b120 ^^^ x)) :: OwnB v54 (boxOf 2 text.length) :: Suite p37 [tKey, tBox (signOf 75 1) nonce other text] :: R) ∧ Ro J v40 ((signOf 75 1).map byt) := S127.frz 4 rfl
        obtain ⟨I132, le133, S134, H135⟩ : ∃ J : Gh, Gh.le I128 J ∧ Sat w123 J (OwnB v79 (([] : List UInt8) ++ other) :: OwnB v54 (boxOf 2 text.length) :: Suite p37 [tKey, tBox (signOf 75 1) nonce other text] :: R) ∧ Ro J v66 (((([] : List UInt8) ++ nonce).set ((x119 : Int).toNat) (b120 ^^^ x)).map byt) := S130.frz 1 rfl
        obtain ⟨I136, le137, S138, H139⟩ : ∃ J : Gh, Gh.le I132 J ∧ Sat w123 J (OwnB v54 (boxOf 2 text.length) :: Suite p37 [tKey, tBox (signOf 75 1) nonce other text] :: R) ∧ Ro J v79 ((([] : List UInt8) ++ other).map byt) := S134.frz 0 rfl
        obtain ⟨I140, le141, S142, H143⟩ : ∃ J : Gh, Gh.le I136 J ∧ Sat w123 J (Suite p37 [tKey, tBox (signOf 75 1) nonce other text] :: R) ∧ Ro J v54 ((boxOf 2 text.length).map byt) := S138.frz 0 rfl
        refine EL_ret [p37, v40, v66, v79, v54] rfl Try.func18 rfl nm18 rfl (OpenNo_c p37 [tKey, tBox (signOf 75 1) nonce other text] v40 (signOf 75 1) v66 ((([] : List UInt8) ++ nonce).set ((x119 : Int).toNat) (b120 ^^^ x)) v79 (([] : List UInt8) ++ other) v54 (boxOf 2 text.length) I140 _ _ S142 (H131.up (Gh.le_trans (Gh.le_trans le133 le137) le141)) (H135.up (Gh.le_trans le137 le141)) (H139.up le141) H143 (by simp) (by first | (rw [sign_len]; decide) | (rw [List.length_set, sign_len]; decide)) (by first | omega | (simp; omega)) (by first | omega | (simp; omega)) (by first | omega | (rw [box_len]; omega) | (rw [List.length_set, box_len]; omega)) (small_snoc (L := [tKey]) (small_snoc small_nil (by decide)) (by dsimp only; omega)) (szOk_iff.2 ⟨by first | rfl | (rw [List.length_set]; rfl), by first | assumption | (simp; omega)⟩) (open_only (by rintro ⟨_, h1, _⟩; exact set_ne hb121 hx0 (by simpa using h1)))) ?_
        rintro _ w144 ⟨v146, I147, le148, rfl, H149, S145⟩
        refine EL_val (.tuple #[v146, .int .i64 20]) w144 rfl (r_move rfl) ?_
        refine EL_val v146 w144 rfl (r_extract rfl rfl) ?_
        refine EL_val (.int .i64 20) w144 rfl (r_extract rfl rfl) ?_
        refine EL_val v146 w144 rfl (r_assign rfl) ?_
        refine EL_val (.int .i64 20) w144 rfl (r_assign rfl) ?_
        refine EL_nil ?_
        refine thn_n ?_
        refine EC_seq ?_
        refine EC_seq ?_
        refine EC_reg ?_
        refine EL_val (.int .i64 which) w144 rfl (r_move rfl) ?_
        refine EL_val (.bool (decide (which = 0))) w144 rfl (r_eql rfl rfl) ?_
        refine EL_nil ?_
        refine thn_n ?_
        refine EC_cond_false (Eq.trans (show _ = Value.bool (decide (which = 0)) from rfl) (congrArg Value.bool (show (decide (which = 0)) = false from by simp; omega))) ?_
        refine EC_skip ?_
        refine thn_n ?_
        refine EC_seq ?_
        refine EC_reg ?_
        refine EL_val (.int .i64 20) w144 rfl (r_move rfl) ?_
        refine EL_val (.bool true) w144 rfl (r_dec (by decide) (r_eql rfl rfl)) ?_
        refine EL_val (.bool true) w144 rfl (r_move rfl) ?_
        refine EL_gval 128 rfl rfl rfl rfl v146 w144 rfl (r_move rfl) ?_
        refine EL_gval 128 rfl rfl rfl rfl (.int .i64 ([].length : Int)) w144 rfl (r_len rfl (H149 _ S145.le) Try.underlying22) ?_
        refine EL_gval 128 rfl rfl rfl rfl (.bool (decide (([].length : Int) = 0))) w144 rfl (r_eql rfl rfl) ?_
        refine EL_val (.bool (decide (([].length : Int) = 0))) w144 rfl (r_pickT rfl rfl) ?_
        refine EL_val (.bool (decide (([].length : Int) = 0))) w144 rfl (r_assign rfl) ?_
        refine EL_nil ?_
        refine thn_n ?_
        refine EC_ret ?_
        refine fin1 Try.results7 (show _ = .bool (decide (([].length : Int) = 0)) from rfl) ⟨_, rfl, ?_⟩
        have S150 : Sat w144 I147 (R) := S145.drop 0 rfl
        exact ⟨I147, (Gh.le_trans (Gh.le_trans (Gh.le_trans (Gh.le_trans (Gh.le_trans (Gh.le_trans le21 le46) le129) le133) le137) le141) le148), (by first | rfl | simp), S150⟩
      · refine EC_seq ?_
        refine EC_reg ?_
        refine EL_val (.bool (decide (which = 3))) w80 rfl (r_eql rfl rfl) ?_
        refine EL_val (.bool (decide (which = 3))) w80 rfl (r_assign rfl) ?_
        refine EL_nil ?_
        refine thn_n ?_
        refine EC_if (p := which = 3) rfl (fun h151 => ?_) (fun h151 => ?_)
        · refine EC_reg ?_
          refine EL_val v79 w80 rfl (r_move rfl) ?_
          refine EL_val (.int .u8 (x.toNat : Int)) w80 rfl (r_move rfl) ?_
          refine EL_lit w80.heap.size #[.int .u8 (x.toNat : Int)] elB rfl (by decide) rfl (Nat.le_refl _) (by kernel_rfl) ?_
          intro v152 w153 O154 B155 k156 z157
          have S158 : Sat w153 I45 (OwnB v152 [x] :: OwnB v79 (([] : List UInt8) ++ other) :: OwnB v66 (([] : List UInt8) ++ nonce) :: OwnB v54 (boxOf 2 text.length) :: Suite p37 [tKey, tBox (signOf 75 1) nonce other text] :: OwnB v40 (signOf 75 1) :: R) := S84.newO B155 (own_eq (l := [x]) O154 (by simp [bof_val, byt]))
          refine EL_append (v := v79) (xs := (([] : List UInt8) ++ other).map byt) (ys := [x].map byt) 0 elB rfl rfl rfl (own_len (S158.own 1 rfl)) (own_row (S158.own 0 rfl)) (byt_one _) (by first | (simp only [List.length_map, List.length_nil, List.length_append]; omega) | (simp; done) | (simp; omega)) (by decide) (Nat.zero_le _) ?_
          intro v159 w160 O161 G162 A163
          have S164 : Sat w160 I45 (OwnB v152 [x] :: OwnB v159 ((([] : List UInt8) ++ other) ++ [x]) :: OwnB v66 (([] : List UInt8) ++ nonce) :: OwnB v54 (boxOf 2 text.length) :: Suite p37 [tKey, tBox (signOf 75 1) nonce other text] :: OwnB v40 (signOf 75 1) :: R) := S158.grow 1 rfl G162 (own_app O161) A163
          refine EL_val v159 w160 rfl (r_assign rfl) ?_
          refine EL_nil ?_
          refine inB_n ?_
          refine thn_n ?_
          refine EC_seq ?_
          refine EC_reg ?_
          refine EL_val p37 w160 rfl (r_move rfl) ?_
          refine EL_val v40 w160 rfl (r_move rfl) ?_
          refine EL_val v66 w160 rfl (r_move rfl) ?_
          refine EL_val v159 w160 rfl (r_move rfl) ?_
          refine EL_val v54 w160 rfl (r_move rfl) ?_
          obtain ⟨I165, le166, S167, H168⟩ : ∃ J : Gh, Gh.le I45 J ∧ Sat w160 J (OwnB v152 [x] :: OwnB v159 ((([] : List UInt8) ++ other) ++ [x]) :: OwnB v66 (([] : List UInt8) ++ nonce) :: OwnB v54 (boxOf 2 text.length) :: Suite p37 [tKey, tBox (signOf 75 1) nonce other text] :: R) ∧ Ro J v40 ((signOf 75 1).map byt) := S164.frz 5 rfl
          obtain ⟨I169, le170, S171, H172⟩ : ∃ J : Gh, Gh.le I165 J ∧ Sat w160 J (OwnB v152 [x] :: OwnB v159 ((([] : List UInt8) ++ other) ++ [x]) :: OwnB v54 (boxOf 2 text.length) :: Suite p37 [tKey, tBox (signOf 75 1) nonce other text] :: R) ∧ Ro J v66 ((([] : List UInt8) ++ nonce).map byt) := S167.frz 2 rfl
          obtain ⟨I173, le174, S175, H176⟩ : ∃ J : Gh, Gh.le I169 J ∧ Sat w160 J (OwnB v152 [x] :: OwnB v54 (boxOf 2 text.length) :: Suite p37 [tKey, tBox (signOf 75 1) nonce other text] :: R) ∧ Ro J v159 (((([] : List UInt8) ++ other) ++ [x]).map byt) := S171.frz 1 rfl
          obtain ⟨I177, le178, S179, H180⟩ : ∃ J : Gh, Gh.le I173 J ∧ Sat w160 J (OwnB v152 [x] :: Suite p37 [tKey, tBox (signOf 75 1) nonce other text] :: R) ∧ Ro J v54 ((boxOf 2 text.length).map byt) := S175.frz 1 rfl
          have S181 : Sat w160 I177 (Suite p37 [tKey, tBox (signOf 75 1) nonce other text] :: OwnB v152 [x] :: R) := S179.cons_front (i := 1) rfl
          refine EL_ret [p37, v40, v66, v159, v54] rfl Try.func18 rfl nm18 rfl (OpenNo_c p37 [tKey, tBox (signOf 75 1) nonce other text] v40 (signOf 75 1) v66 (([] : List UInt8) ++ nonce) v159 ((([] : List UInt8) ++ other) ++ [x]) v54 (boxOf 2 text.length) I177 _ _ S181 (H168.up (Gh.le_trans (Gh.le_trans le170 le174) le178)) (H172.up (Gh.le_trans le174 le178)) (H176.up le178) H180 (by simp) (by first | (rw [sign_len]; decide) | (rw [List.length_set, sign_len]; decide)) (by first | omega | (simp; omega)) (by first | omega | (simp; omega)) (by first | omega | (rw [box_len]; omega) | (rw [List.length_set, box_len]; omega)) (small_snoc (L := [tKey]) (small_snoc small_nil (by decide)) (by dsimp only; omega)) (szOk_iff.2 ⟨by first | rfl | (rw [List.length_set]; rfl), by first | assumption | (simp; omega)⟩) (open_only (by rintro ⟨_, _, h1, _⟩; have := congrArg List.length h1; simp at this))) ?_
          rintro _ w182 ⟨v184, I185, le186, rfl, H187, S183⟩
          refine EL_val (.tuple #[v184, .int .i64 20]) w182 rfl (r_move rfl) ?_
          refine EL_val v184 w182 rfl (r_extract rfl rfl) ?_
          refine EL_val (.int .i64 20) w182 rfl (r_extract rfl rfl) ?_
          refine EL_val v184 w182 rfl (r_assign rfl) ?_
          refine EL_val (.int .i64 20) w182 rfl (r_assign rfl) ?_
          refine EL_nil ?_
          refine thn_n ?_
          refine EC_seq ?_
          refine EC_seq ?_
          refine EC_reg ?_
          refine EL_val (.int .i64 which) w182 rfl (r_move rfl) ?_
          refine EL_val (.bool (decide (which = 0))) w182 rfl (r_eql rfl rfl) ?_
          refine EL_nil ?_
          refine thn_n ?_
          refine EC_cond_false (Eq.trans (show _ = Value.bool (decide (which = 0)) from rfl) (congrArg Value.bool (show (decide (which = 0)) = false from by simp; omega))) ?_
          refine EC_skip ?_
          refine thn_n ?_
          refine EC_seq ?_
          refine EC_reg ?_
          refine EL_val (.int .i64 20) w182 rfl (r_move rfl) ?_
          refine EL_val (.bool true) w182 rfl (r_dec (by decide) (r_eql rfl rfl)) ?_
          refine EL_val (.bool true) w182 rfl (r_move rfl) ?_
          refine EL_gval 128 rfl rfl rfl rfl v184 w182 rfl (r_move rfl) ?_
          refine EL_gval 128 rfl rfl rfl rfl (.int .i64 ([].length : Int)) w182 rfl (r_len rfl (H187 _ S183.le) Try.underlying22) ?_
          refine EL_gval 128 rfl rfl rfl rfl (.bool (decide (([].length : Int) = 0))) w182 rfl (r_eql rfl rfl) ?_
          refine EL_val (.bool (decide (([].length : Int) = 0))) w182 rfl (r_pickT rfl rfl) ?_
          refine EL_val (.bool (decide (([].length : Int) = 0))) w182 rfl (r_assign rfl) ?_
          refine EL_nil ?_
          refine thn_n ?_
          refine EC_ret ?_
          refine fin1 Try.results7 (show _ = .bool (decide (([].length : Int) = 0)) from rfl) ⟨_, rfl, ?_⟩
          have S188 : Sat w182 I185 (OwnB v152 [x] :: R) := S183.drop 0 rfl
          have S189 : Sat w182 I185 (R) := S188.drop 0 rfl
          exact ⟨I185, (Gh.le_trans (Gh.le_trans (Gh.le_trans (Gh.le_trans (Gh.le_trans (Gh.le_trans le21 le46) le166) le170) le174) le178) le186), (by first | rfl | simp), S189⟩
        · refine EC_seq ?_
          refine EC_reg ?_
          refine EL_val (.bool (decide (which = 4))) w80 rfl (r_eql rfl rfl) ?_
          refine EL_val (.bool (decide (which = 4))) w80 rfl (r_assign rfl) ?_
          refine EL_nil ?_
          refine thn_n ?_
          refine EC_if (p := which = 4) rfl (fun h190 => ?_) (fun h190 => ?_)
          · refine EC_reg ?_
            refine EL_val v54 w80 rfl (r_move rfl) ?_
            refine EL_val (.int .i64 at1) w80 rfl (r_move rfl) ?_
            refine EL_val v54 w80 rfl (r_move rfl) ?_
            refine EL_val (.int .i64 ((boxOf 2 text.length).length : Int)) w80 rfl (lenB (r_len rfl (own_row (S84.own 2 rfl)) Try.underlying22)) ?_
            refine EL_int (at1 % ((boxOf 2 text.length).length : Int)) rfl (r_remi rfl rfl (by omega) (by omega)) ?_
            intro x191 hx191
            have m192 := Int.emod_nonneg at1 (b := ((boxOf 2 text.length).length : Int)) (by omega)
            have m193 := Int.emod_lt_of_pos at1 (b := ((boxOf 2 text.length).length : Int)) (by omega)
            refine EL_val (.pointer (some (at_ v54 ((x191 : Int).toNat)))) w80 rfl (r_index rfl (own_row (S84.own 2 rfl)) rfl (by omega) (by first | omega | (simp; omega) | simp) Try.underlying22 (by kernel_rfl)) ?_
            obtain ⟨b194, hb195⟩ := get_some (l := boxOf 2 text.length) (j := (x191 : Int).toNat) (by first | omega | (simp; omega) | simp)
            have hb196 := b194.toNat_lt
            refine EL_val (.int .u8 (b194.toNat : Int)) w80 rfl (r_load rfl ((own_row (S84.own 2 rfl)).cell (bs_get hb195)) Try.underlying5 rfl) ?_
            refine EL_val (.int .u8 (x.toNat : Int)) w80 rfl (r_move rfl) ?_
            refine EL_val (.int .u8 ((b194 ^^^ x).toNat : Int)) w80 rfl (r_xorb (a := b194) (b := x) rfl rfl) ?_
            refine EL_val (.pointer (some (at_ v54 ((x191 : Int).toNat)))) w80 rfl (r_index rfl (own_row (S84.own 2 rfl)) rfl (by omega) (by first | omega | (simp; omega) | simp) Try.underlying22 (by kernel_rfl)) ?_
            refine EL_store (u := byt (b194 ^^^ x)) rfl rfl (S84.own 2 rfl) (by first | omega | (simp; done) | (simp; omega)) rfl (by kernel_rfl) ?_
            intro w197 O198 G199 z200
            have S201 : Sat w197 I45 (OwnB v79 (([] : List UInt8) ++ other) :: OwnB v66 (([] : List UInt8) ++ nonce) :: OwnB v54 ((boxOf 2 text.length).set ((x191 : Int).toNat) (b194 ^^^ x)) :: Suite p37 [tKey, tBox (signOf 75 1) nonce other text] :: OwnB v40 (signOf 75 1) :: R) := S84.grow 2 rfl G199 (own_set O198) (.inl rfl)
            refine EL_nil ?_
            refine inB_n ?_
            refine thn_n ?_
            refine EC_seq ?_
            refine EC_reg ?_
            refine EL_val p37 w197 rfl (r_move rfl) ?_
            refine EL_val v40 w197 rfl (r_move rfl) ?_
            refine EL_val v66 w197 rfl (r_move rfl) ?_
            refine EL_val v79 w197 rfl (r_move rfl) ?_
            refine EL_val v54 w197 rfl (r_move rfl) ?_
            obtain ⟨I202, le203, S204, H205⟩ : ∃ J : Gh, Gh.le I45 J ∧ Sat w197 J (OwnB v79 (([] : List UInt8) ++ other) :: OwnB v66 (([] : List UInt8) ++ nonce) :: OwnB v54 ((boxOf 2 text.length).set ((x191 : Int).toNat) (b194 ^^^ x)) :: Suite p37 [tKey, tBox (signOf 75 1) nonce other text] :: R) ∧ Ro J v40 ((signOf 75 1).map byt) := S201.frz 4 rfl
            obtain ⟨I206, le207, S208, H209⟩ : ∃ J : Gh, Gh.le I202 J ∧ Sat w197 J (OwnB v79 (([] : List UInt8) ++ other) :: OwnB v54 ((boxOf 2 text.length).set ((x191 : Int).toNat) (b194 ^^^ x)) :: Suite p37 [tKey, tBox (signOf 75 1) nonce other text] :: R) ∧ Ro J v66 ((([] : List UInt8) ++ nonce).map byt) := S204.frz 1 rfl
            obtain ⟨I210, le211, S212, H213⟩ : ∃ J : Gh, Gh.le I206 J ∧ Sat w197 J (OwnB v54 ((boxOf 2 text.length).set ((x191 : Int).toNat) (b194 ^^^ x)) :: Suite p37 [tKey, tBox (signOf 75 1) nonce other text] :: R) ∧ Ro J v79 ((([] : List UInt8) ++ other).map byt) := S208.frz 0 rfl
            obtain ⟨I214, le215, S216, H217⟩ : ∃ J : Gh, Gh.le I210 J ∧ Sat w197 J (Suite p37 [tKey, tBox (signOf 75 1) nonce other text] :: R) ∧ Ro J v54 (((boxOf 2 text.length).set ((x191 : Int).toNat) (b194 ^^^ x)).map byt) := S212.frz 0 rfl
            refine EL_ret [p37, v40, v66, v79, v54] rfl Try.func18 rfl nm18 rfl (OpenNo_c p37 [tKey, tBox (signOf 75 1) nonce other text] v40 (signOf 75 1) v66 (([] : List UInt8) ++ nonce) v79 (([] : List UInt8) ++ other) v54 ((boxOf 2 text.length).set ((x191 : Int).toNat) (b194 ^^^ x)) I214 _ _ S216 (H205.up (Gh.le_trans (Gh.le_trans le207 le211) le215)) (H209.up (Gh.le_trans le211 le215)) (H213.up le215) H217 (by simp) (by first | (rw [sign_len]; decide) | (rw [List.length_set, sign_len]; decide)) (by first | omega | (simp; omega)) (by first | omega | (simp; omega)) (by first | omega | (rw [box_len]; omega) | (rw [List.length_set, box_len]; omega)) (small_snoc (L := [tKey]) (small_snoc small_nil (by decide)) (by dsimp only; omega)) (szOk_iff.2 ⟨by first | rfl | (rw [List.length_set]; rfl), by first | assumption | (simp; omega)⟩) (open_only (by rintro ⟨_, _, _, h1⟩; exact set_ne hb195 hx0 h1))) ?_
            rintro _ w218 ⟨v220, I221, le222, rfl, H223, S219⟩
            refine EL_val (.tuple #[v220, .int .i64 20]) w218 rfl (r_move rfl) ?_
            refine EL_val v220 w218 rfl (r_extract rfl rfl) ?_
            refine EL_val (.int .i64 20) w218 rfl (r_extract rfl rfl) ?_
            refine EL_val v220 w218 rfl (r_assign rfl) ?_
            refine EL_val (.int .i64 20) w218 rfl (r_assign rfl) ?_
            refine EL_nil ?_
            refine thn_n ?_
            refine EC_seq ?_
            refine EC_seq ?_
            refine EC_reg ?_
            refine EL_val (.int .i64 which) w218 rfl (r_move rfl) ?_
            refine EL_val (.bool (decide (which = 0))) w218 rfl (r_eql rfl rfl) ?_
            refine EL_nil ?_
            refine thn_n ?_
            refine EC_cond_false (Eq.trans (show _ = Value.bool (decide (which = 0)) from rfl) (congrArg Value.bool (show (decide (which = 0)) = false from by simp; omega))) ?_
            refine EC_skip ?_
            refine thn_n ?_
            refine EC_seq ?_
            refine EC_reg ?_
            refine EL_val (.int .i64 20) w218 rfl (r_move rfl) ?_
            refine EL_val (.bool true) w218 rfl (r_dec (by decide) (r_eql rfl rfl)) ?_
            refine EL_val (.bool true) w218 rfl (r_move rfl) ?_
            refine EL_gval 128 rfl rfl rfl rfl v220 w218 rfl (r_move rfl) ?_
            refine EL_gval 128 rfl rfl rfl rfl (.int .i64 ([].length : Int)) w218 rfl (r_len rfl (H223 _ S219.le) Try.underlying22) ?_
            refine EL_gval 128 rfl rfl rfl rfl (.bool (decide (([].length : Int) = 0))) w218 rfl (r_eql rfl rfl) ?_
            refine EL_val (.bool (decide (([].length : Int) = 0))) w218 rfl (r_pickT rfl rfl) ?_
            refine EL_val (.bool (decide (([].length : Int) = 0))) w218 rfl (r_assign rfl) ?_
            refine EL_nil ?_
            refine thn_n ?_
            refine EC_ret ?_
            refine fin1 Try.results7 (show _ = .bool (decide (([].length : Int) = 0)) from rfl) ⟨_, rfl, ?_⟩
            have S224 : Sat w218 I221 (R) := S219.drop 0 rfl
            exact ⟨I221, (Gh.le_trans (Gh.le_trans (Gh.le_trans (Gh.le_trans (Gh.le_trans (Gh.le_trans le21 le46) le203) le207) le211) le215) le222), (by first | rfl | simp), S224⟩
          · refine EC_skip ?_
            refine inB_n ?_
            refine thn_n ?_
            refine EC_seq ?_
            refine EC_reg ?_
            refine EL_val p37 w80 rfl (r_move rfl) ?_
            refine EL_val v40 w80 rfl (r_move rfl) ?_
            refine EL_val v66 w80 rfl (r_move rfl) ?_
            refine EL_val v79 w80 rfl (r_move rfl) ?_
            refine EL_val v54 w80 rfl (r_move rfl) ?_
            obtain ⟨I225, le226, S227, H228⟩ : ∃ J : Gh, Gh.le I45 J ∧ Sat w80 J (OwnB v79 (([] : List UInt8) ++ other) :: OwnB v66 (([] : List UInt8) ++ nonce) :: OwnB v54 (boxOf 2 text.length) :: Suite p37 [tKey, tBox (signOf 75 1) nonce other text] :: R) ∧ Ro J v40 ((signOf 75 1).map byt) := S84.frz 4 rfl
            obtain ⟨I229, le230, S231, H232⟩ : ∃ J : Gh, Gh.le I225 J ∧ Sat w80 J (OwnB v79 (([] : List UInt8) ++ other) :: OwnB v54 (boxOf 2 text.length) :: Suite p37 [tKey, tBox (signOf 75 1) nonce other text] :: R) ∧ Ro J v66 ((([] : List UInt8) ++ nonce).map byt) := S227.frz 1 rfl
            obtain ⟨I233, le234, S235, H236⟩ : ∃ J : Gh, Gh.le I229 J ∧ Sat w80 J (OwnB v54 (boxOf 2 text.length) :: Suite p37 [tKey, tBox (signOf 75 1) nonce other text] :: R) ∧ Ro J v79 ((([] : List UInt8) ++ other).map byt) := S231.frz 0 rfl
            obtain ⟨I237, le238, S239, H240⟩ : ∃ J : Gh, Gh.le I233 J ∧ Sat w80 J (Suite p37 [tKey, tBox (signOf 75 1) nonce other text] :: R) ∧ Ro J v54 ((boxOf 2 text.length).map byt) := S235.frz 0 rfl
            refine EL_ret [p37, v40, v66, v79, v54] rfl Try.func18 rfl nm18 rfl (OpenOk_c p37 [tKey, tBox (signOf 75 1) nonce other text] v40 (signOf 75 1) v66 (([] : List UInt8) ++ nonce) v79 (([] : List UInt8) ++ other) v54 (boxOf 2 text.length) text I237 _ _ S239 (H228.up (Gh.le_trans (Gh.le_trans le230 le234) le238)) (H232.up (Gh.le_trans le234 le238)) (H236.up le238) H240 (by simp) (by first | (rw [sign_len]; decide) | (rw [List.length_set, sign_len]; decide)) (by first | omega | (simp; omega)) (by first | omega | (simp; omega)) (by first | omega | (rw [box_len]; omega) | (rw [List.length_set, box_len]; omega)) (small_snoc (L := [tKey]) (small_snoc small_nil (by decide)) (by dsimp only; omega)) (szOk_iff.2 ⟨by first | rfl | (rw [List.length_set]; rfl), by first | assumption | (simp; omega)⟩) (by simpa using open_box (n := nonce) (o := other) (L := [tKey] ++ [tBox _ _ _ text]) (m := 2) At.last (by decide))) ?_
            rintro _ w241 ⟨v243, I244, le245, rfl, H246, S242⟩
            refine EL_val (.tuple #[v243, .int .i64 0]) w241 rfl (r_move rfl) ?_
            refine EL_val v243 w241 rfl (r_extract rfl rfl) ?_
            refine EL_val (.int .i64 0) w241 rfl (r_extract rfl rfl) ?_
            refine EL_val v243 w241 rfl (r_assign rfl) ?_
            refine EL_val (.int .i64 0) w241 rfl (r_assign rfl) ?_
            refine EL_nil ?_
            refine thn_n ?_
            refine EC_seq ?_
            refine EC_seq ?_
            refine EC_reg ?_
            refine EL_val (.int .i64 which) w241 rfl (r_move rfl) ?_
            refine EL_val (.bool (decide (which = 0))) w241 rfl (r_eql rfl rfl) ?_
            refine EL_nil ?_
            refine thn_n ?_
            refine EC_cond_true (Eq.trans (show _ = Value.bool (decide (which = 0)) from rfl) (congrArg Value.bool (show (decide (which = 0)) = true from by simp; omega))) ?_
            refine EC_seq ?_
            refine EC_reg ?_
            refine EL_val (.int .i64 0) w241 rfl (r_move rfl) ?_
            refine EL_val (.bool true) w241 rfl (r_dec (by decide) (r_eql rfl rfl)) ?_
            refine EL_val (.bool true) w241 rfl (r_move rfl) ?_
            refine EL_gval 119 rfl rfl rfl rfl v243 w241 rfl (r_move rfl) ?_
            refine EL_gval 119 rfl rfl rfl rfl (.string (str text)) w241 rfl (r_str rfl (H246 _ S242.le) Try.underlying22 Try.underlying5 Try.underlying9) ?_
            refine EL_gval 119 rfl rfl rfl rfl v0 w241 rfl (r_move rfl) ?_
            refine EL_gval 119 rfl rfl rfl rfl (.string (str text)) w241 rfl (r_str rfl (Q0 _ (Gh.le_trans (Gh.le_trans (Gh.le_trans (Gh.le_trans (Gh.le_trans (Gh.le_trans (Gh.le_trans le21 le46) le226) le230) le234) le238) le245) S242.le)) Try.underlying22 Try.underlying5 Try.underlying9) ?_
            refine EL_gval 119 rfl rfl rfl rfl (.bool true) w241 rfl (r_dec (show decide (text = text) = true from by simp) (r_eqls rfl rfl)) ?_
            refine EL_val (.bool true) w241 rfl (r_pickT rfl rfl) ?_
            refine EL_val (.bool true) w241 rfl (r_assign rfl) ?_
            refine EL_nil ?_
            refine thn_n ?_
            refine EC_ret ?_
            refine thn_r ?_
            refine fin1 Try.results7 (show _ = .bool true from rfl) ⟨_, rfl, ?_⟩
            have S247 : Sat w241 I244 (R) := S242.drop 0 rfl
            exact ⟨I244, (Gh.le_trans (Gh.le_trans (Gh.le_trans (Gh.le_trans (Gh.le_trans (Gh.le_trans le21 le46) le226) le230) le234) le238) le245), rfl, S247⟩
theorem SuiteOpens_c (v0 : Value) (text : List UInt8) (nonce : List UInt8) (v2 : Value) (other : List UInt8) (which : Int) (at1 : Int) (x : UInt8) (w : World) (H0 : Bs w v0 text) (lnonce : nonce.length = 12) (H2 : Bs w v2 other) (rwhich : -9223372036854775808 ≤ which ∧ which ≤ 9223372036854775807) (rat1 : -9223372036854775808 ≤ at1 ∧ at1 ≤ 9223372036854775807) : Ret Try.prog 7 [v0, .agg (nonce.map byt).toArray, v2, .int .i64 which, .int .i64 at1, .int .u8 (x.toNat : Int)] w fun v w' => v = .bool true ∧ Below w.heap.size w w' :=
  (SuiteOpens_w v0 text nonce v2 other which at1 x (gh w) [] w (Sat.start w) (Row.ro H0) (Row.ro H2) lnonce rwhich rat1).mono fun v w' h => by obtain ⟨J, le, e, S⟩ := h; exact ⟨e.symm, S.fin le⟩
theorem own : ownKnob Try.prog.godebug = none := by kernel_rfl
theorem laidOut : laidOutB Try.prog = true := by kernel_rfl
set_option maxRecDepth 100000 in
theorem lifted (os : Os) (started : os.Started) (H : Type) (enc : TypeId × Value → H) :
    ReturnsInHanded {} Try.checked os 7 .any (Rows.suiteOpensSpec.pre6 enc Try.prog Try.f7 Rows.suiteOpensRow.domain false) (Rows.suiteOpensSpec.post enc Try.prog Try.f7 false true false false) := by
  refine returnsInHanded_of_change (C := Try.checked) own started (by kernel_rfl) Try.func7
    (ChangeSpec.witness6 (enc := enc) (C := Try.checked) false ⟨#[], #[.slice none 0 0, .agg #[.int .u8 0, .int .u8 0, .int .u8 0, .int .u8 0, .int .u8 0, .int .u8 0, .int .u8 0, .int .u8 0, .int .u8 0, .int .u8 0, .int .u8 0, .int .u8 0], .slice none 0 0, .int .i64 0, .int .i64 0, .int .u8 0], []⟩ 8 (by kernel_rfl) (by kernel_rfl) (by kernel_rfl) (by kernel_rfl)) ?_
  intro W base args ds gs before hval0 hW hcnd _
  have hval : ∀ (j : Nat) t v, Try.f7.params[j]? = some t → args[j]? = some v → Value.okWide Try.prog W .any base t v := hval0
  have hW' := hW
  obtain ⟨p, q, hA0, hV, rfl, hfz, hnd⟩ := hW
  have hA : DataW.TrodAll enc Try.prog W 0 (fun _ => true) true Try.f7.params.toList args.toList ds p := hA0
  rw [Try.params7] at hA hval
  obtain ⟨v0, vs0, d0, ds0, p0, q0, hargs, rfl, rfl, h0, r0⟩ := trodAll_cons hA
  obtain ⟨v1, vs1, d1, ds1, p1, q1, rfl, rfl, rfl, h1, r1⟩ := trodAll_cons r0
  obtain ⟨v2, vs2, d2, ds2, p2, q2, rfl, rfl, rfl, h2, r2⟩ := trodAll_cons r1
  obtain ⟨v3, vs3, d3, ds3, p3, q3, rfl, rfl, rfl, h3, r3⟩ := trodAll_cons r2
  obtain ⟨v4, vs4, d4, ds4, p4, q4, rfl, rfl, rfl, h4, r4⟩ := trodAll_cons r3
  obtain ⟨v5, vs5, d5, ds5, p5, q5, rfl, rfl, rfl, h5, r5⟩ := trodAll_cons r4
  obtain ⟨rfl, rfl, rfl⟩ := trodAll_nil r5
  obtain rfl : args = #[v0, v1, v2, v3, v4, v5] := by cases args; simp_all
  obtain ⟨rfl, rfl⟩ := trodVars_none hV
  have k0 := h0
  have lt0 : ∀ x ∈ p0, x.block < W.heap.size := by obtain ⟨m, hm⟩ := k0; exact DataW.trod_lt m _ _ _ hm
  obtain ⟨a0, len0, cap0, rfl⟩ := okWide_slice Try.underlying22 (hval 0 22 v0 rfl rfl)
  obtain ⟨b0, H0⟩ : ∃ l, Bs W (.slice a0 len0 cap0) l := by
    obtain ⟨fuel, hf⟩ := h0
    rcases open_ints Try.underlying22 Try.underlying5 (by kernel_rfl) hf with ⟨hcs, _⟩ | ⟨x, l, c, zs, hcs, _, hl, hm, hz, _, hcell, hwz⟩
    · simp [Value.cells] at hcs
      obtain ⟨rfl, rfl, rfl⟩ := hcs
      exact ⟨[], Row.nil W⟩
    · simp [Value.cells] at hcs
      obtain ⟨rfl, rfl, rfl⟩ := hcs
      exact bs_open hl hm (by simpa using hz) hcell hwz
  have k1 := h1
  have lt1 : ∀ x ∈ p1, x.block < W.heap.size := by obtain ⟨m, hm⟩ := k1; exact DataW.trod_lt m _ _ _ hm
  obtain ⟨l1, hl1, rfl⟩ := arr_open (n := 12) Try.underlying39 Try.underlying5 (by kernel_rfl) (by kernel_rfl) (hval 1 39 v1 rfl rfl) h1
  have k2 := h2
  have lt2 : ∀ x ∈ p2, x.block < W.heap.size := by obtain ⟨m, hm⟩ := k2; exact DataW.trod_lt m _ _ _ hm
  obtain ⟨a2, len2, cap2, rfl⟩ := okWide_slice Try.underlying22 (hval 2 22 v2 rfl rfl)
  obtain ⟨b2, H2⟩ : ∃ l, Bs W (.slice a2 len2 cap2) l := by
    obtain ⟨fuel, hf⟩ := h2
    rcases open_ints Try.underlying22 Try.underlying5 (by kernel_rfl) hf with ⟨hcs, _⟩ | ⟨x, l, c, zs, hcs, _, hl, hm, hz, _, hcell, hwz⟩
    · simp [Value.cells] at hcs
      obtain ⟨rfl, rfl, rfl⟩ := hcs
      exact ⟨[], Row.nil W⟩
    · simp [Value.cells] at hcs
      obtain ⟨rfl, rfl, rfl⟩ := hcs
      exact bs_open hl hm (by simpa using hz) hcell hwz
  have k3 := h3
  have lt3 : ∀ x ∈ p3, x.block < W.heap.size := by obtain ⟨m, hm⟩ := k3; exact DataW.trod_lt m _ _ _ hm
  obtain ⟨a3, rfl, rfl, rfl, w3⟩ := open_int Try.underlying3 (hval 3 3 v3 rfl rfl) h3
  have k4 := h4
  have lt4 : ∀ x ∈ p4, x.block < W.heap.size := by obtain ⟨m, hm⟩ := k4; exact DataW.trod_lt m _ _ _ hm
  obtain ⟨a4, rfl, rfl, rfl, w4⟩ := open_int Try.underlying3 (hval 4 3 v4 rfl rfl) h4
  have k5 := h5
  have lt5 : ∀ x ∈ p5, x.block < W.heap.size := by obtain ⟨m, hm⟩ := k5; exact DataW.trod_lt m _ _ _ hm
  obtain ⟨a5, rfl, rfl, rfl, w5⟩ := open_int Try.underlying5 (hval 5 5 v5 rfl rfl) h5
  obtain ⟨y5, rfl⟩ := u8_of w5
  clear hA0 hval0
  refine Calls.mono (SuiteOpens_c (.slice a0 len0 cap0) b0 l1 (.slice a2 len2 cap2) b2 a3 a4 y5 W H0 hl1 H2 (rng_i64 w3) (rng_i64 w4)) fun e W' ⟨v', he, hv, bel⟩ => ?_
  subst he
  subst hv
  exact ⟨_, rfl, _, _, _, [], _, [], hW', trodAll_mk1 (shut_bool Try.underlying4 _), (trodAll_cons_mk (Below.trod laidOut (by kernel_rfl) (of_decide_eq_true (by kernel_rfl)) k0 bel lt0) (trodAll_cons_mk (Below.trod laidOut (by kernel_rfl) (of_decide_eq_true (by kernel_rfl)) k1 bel lt1) (trodAll_cons_mk (Below.trod laidOut (by kernel_rfl) (of_decide_eq_true (by kernel_rfl)) k2 bel lt2) (trodAll_cons_mk (Below.trod laidOut (by kernel_rfl) (of_decide_eq_true (by kernel_rfl)) k3 bel lt3) (trodAll_cons_mk (Below.trod laidOut (by kernel_rfl) (of_decide_eq_true (by kernel_rfl)) k4 bel lt4) (trodAll_cons_mk (Below.trod laidOut (by kernel_rfl) (of_decide_eq_true (by kernel_rfl)) k5 bel lt5) trodAll_mk0)))))), rfl, bel.frame _, fun h => by cases h⟩
theorem over : Rows.suiteOpensRow.holds Try.pinned (OpenSpec.ofChange Rows.suiteOpensSpec) :=
  OpenClaim.holds_of_wide 7 Try.f7 rfl rfl rfl rfl rfl rfl rfl ⟨rfl, rfl, rfl, rfl, rfl⟩ rfl rfl rfl rfl rfl (by kernel_rfl) Try.func7 (by kernel_rfl)
    (of_decide_eq_true (by kernel_rfl)) (by unfold Func.isWrapper; first | (rw [if_pos (by decide +kernel)]; kernel_rfl) | (rw [if_neg (by decide +kernel)]; exact ⟨rfl, rfl⟩))
    (fun os started H enc _ => lifted os started H enc)
end Go.Proofs.Ytamjafnjohiccaa.suiteOpens
namespace Go.Proofs.Ytamjafnjohiccaa
theorem SuiteOpens_holds : Rows.SuiteOpensSaid := suiteOpens.over
end Go.Proofs.Ytamjafnjohiccaa
