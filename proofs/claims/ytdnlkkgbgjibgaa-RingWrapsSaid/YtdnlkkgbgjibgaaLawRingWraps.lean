/-
  By signs a wrapped key is unwrapped by just the member for which it was wrapped, of just its epoch, with the same secret.
  Its conditions: none: whatever the input, in whatever memory.
-/
import Derived.Test.YtdnlkkgbgjibgaaRows
import Derived.Test.YtdnlkkgbgjibgaaAnc
import Derived.ProofKit
import Derived.OpenShut
import Derived.ShutString
import Derived.ChangeOld
set_option linter.unusedVariables false
set_option linter.unusedSimpArgs false
namespace Go.Proofs.Ytdnlkkgbgjibgaa.ringWraps
open Go.ChangeShapes Go.WideShapes Go.ChangeAt Go.RowKit Go.Ecal
open Go.ChangeMaps (open_string shut_string)
set_option maxRecDepth 100000 in
set_option maxHeartbeats 4000000 in
theorem RingWraps_w (v0 : Value) (secret : List UInt8) (v1 : Value) (other : List UInt8) (who : Int) (epoch : Int) (he : Int) (ten : Int) (I : Gh) (R : List HP) (w : World) (S : Sat w I (R)) (Q0 : RoB I v0 secret) (Q1 : RoB I v1 other) (rwho : -9223372036854775808 ≤ who ∧ who ≤ 9223372036854775807) (repoch : -9223372036854775808 ≤ epoch ∧ epoch ≤ 9223372036854775807) (rhe : -9223372036854775808 ≤ he ∧ he ≤ 9223372036854775807) (rten : -9223372036854775808 ≤ ten ∧ ten ≤ 9223372036854775807) : Ret Try.prog 4 [v0, v1, .int .i64 who, .int .i64 epoch, .int .i64 he, .int .i64 ten] w fun v w' => ∃ J : Gh, Gh.le I J ∧ .bool true = v ∧ Sat w' J (R) := by
  have lq0 := RoB.le Q0 S.le
  have lq1 := RoB.le Q1 S.le
  refine ret_E Try.func4 rfl Try.ntmps4 (by simp) ?_
  refine EC_seq ?_
  refine EC_reg ?_
  refine EL_val (.bool false) w rfl (r_assign rfl) ?_
  refine EL_nil ?_
  refine thn_n ?_
  refine EC_seq ?_
  refine EC_seq ?_
  refine EC_reg ?_
  refine EL_ret _ rfl Try.func8 rfl nm8 rfl (anchor_c I _ _ S) ?_
  rintro _ w11 ⟨I13, le14, rfl, S12⟩
  refine EL_val (.bool false) w11 rfl (r_dec (show (!true) = false from rfl) (r_not rfl)) ?_
  refine EL_nil ?_
  refine thn_n ?_
  refine EC_cond_false rfl ?_
  refine EC_skip ?_
  refine thn_n ?_
  refine EC_seq ?_
  refine EC_seq ?_
  refine EC_reg ?_
  refine EL_val v0 w11 rfl (r_move rfl) ?_
  refine EL_val (.int .i64 (secret.length : Int)) w11 rfl (lenB (r_len rfl (Q0 _ (Gh.le_trans le14 S12.le)) Try.underlying23)) ?_
  refine EL_val (.bool (decide (100 < (secret.length : Int)))) w11 rfl (r_gtr rfl rfl) ?_
  refine EL_val (.bool (decide (100 < (secret.length : Int)))) w11 rfl (r_move rfl) ?_
  refine EL_gite 24 rfl rfl rfl v1 rfl (fun g15 => r_move rfl) ?_
  refine EL_gite 24 rfl rfl rfl (.int .i64 (other.length : Int)) rfl (fun g16 => lenB (r_len (cond_of g16 rfl) (Q1 _ (Gh.le_trans le14 S12.le)) Try.underlying23)) ?_
  refine EL_gite 24 rfl rfl rfl (.bool (decide (100 < (other.length : Int)))) rfl (fun g17 => r_gtr (cond_of g17 rfl) rfl) ?_
  refine EL_val (.bool ((decide (100 < (secret.length : Int))) || (decide (100 < (other.length : Int))))) w11 rfl (r_or rfl rfl rfl) ?_
  refine EL_val (.bool ((decide (100 < (secret.length : Int))) || (decide (100 < (other.length : Int))))) w11 rfl (r_move rfl) ?_
  refine EL_gite 29 rfl rfl rfl (.int .i64 who) rfl (fun g18 => r_move rfl) ?_
  refine EL_gite 29 rfl rfl rfl (.bool (decide (who < 1))) rfl (fun g19 => r_lss (cond_of g19 rfl) rfl) ?_
  refine EL_val (.bool (((decide (100 < (secret.length : Int))) || (decide (100 < (other.length : Int)))) || (decide (who < 1)))) w11 rfl (r_or rfl rfl rfl) ?_
  refine EL_val (.bool (((decide (100 < (secret.length : Int))) || (decide (100 < (other.length : Int)))) || (decide (who < 1)))) w11 rfl (r_move rfl) ?_
  refine EL_gite 33 rfl rfl rfl (.int .i64 who) rfl (fun g20 => r_move rfl) ?_
  refine EL_gite 33 rfl rfl rfl (.bool (decide (16 < who))) rfl (fun g21 => r_gtr (cond_of g21 rfl) rfl) ?_
  refine EL_val (.bool ((((decide (100 < (secret.length : Int))) || (decide (100 < (other.length : Int)))) || (decide (who < 1))) || (decide (16 < who)))) w11 rfl (r_or rfl rfl rfl) ?_
  refine EL_val (.bool ((((decide (100 < (secret.length : Int))) || (decide (100 < (other.length : Int)))) || (decide (who < 1))) || (decide (16 < who)))) w11 rfl (r_move rfl) ?_
  refine EL_gite 37 rfl rfl rfl (.int .i64 epoch) rfl (fun g22 => r_move rfl) ?_
  refine EL_gite 37 rfl rfl rfl (.bool (decide (epoch < 1))) rfl (fun g23 => r_lss (cond_of g23 rfl) rfl) ?_
  refine EL_val (.bool (((((decide (100 < (secret.length : Int))) || (decide (100 < (other.length : Int)))) || (decide (who < 1))) || (decide (16 < who))) || (decide (epoch < 1)))) w11 rfl (r_or rfl rfl rfl) ?_
  refine EL_val (.bool (((((decide (100 < (secret.length : Int))) || (decide (100 < (other.length : Int)))) || (decide (who < 1))) || (decide (16 < who))) || (decide (epoch < 1)))) w11 rfl (r_move rfl) ?_
  refine EL_gite 41 rfl rfl rfl (.int .i64 epoch) rfl (fun g24 => r_move rfl) ?_
  refine EL_gite 41 rfl rfl rfl (.bool (decide (16 < epoch))) rfl (fun g25 => r_gtr (cond_of g25 rfl) rfl) ?_
  refine EL_val (.bool ((((((decide (100 < (secret.length : Int))) || (decide (100 < (other.length : Int)))) || (decide (who < 1))) || (decide (16 < who))) || (decide (epoch < 1))) || (decide (16 < epoch)))) w11 rfl (r_or rfl rfl rfl) ?_
  refine EL_val (.bool ((((((decide (100 < (secret.length : Int))) || (decide (100 < (other.length : Int)))) || (decide (who < 1))) || (decide (16 < who))) || (decide (epoch < 1))) || (decide (16 < epoch)))) w11 rfl (r_move rfl) ?_
  refine EL_gite 45 rfl rfl rfl (.int .i64 he) rfl (fun g26 => r_move rfl) ?_
  refine EL_gite 45 rfl rfl rfl (.bool (decide (he < 1))) rfl (fun g27 => r_lss (cond_of g27 rfl) rfl) ?_
  refine EL_val (.bool (((((((decide (100 < (secret.length : Int))) || (decide (100 < (other.length : Int)))) || (decide (who < 1))) || (decide (16 < who))) || (decide (epoch < 1))) || (decide (16 < epoch))) || (decide (he < 1)))) w11 rfl (r_or rfl rfl rfl) ?_
  refine EL_val (.bool (((((((decide (100 < (secret.length : Int))) || (decide (100 < (other.length : Int)))) || (decide (who < 1))) || (decide (16 < who))) || (decide (epoch < 1))) || (decide (16 < epoch))) || (decide (he < 1)))) w11 rfl (r_move rfl) ?_
  refine EL_gite 49 rfl rfl rfl (.int .i64 he) rfl (fun g28 => r_move rfl) ?_
  refine EL_gite 49 rfl rfl rfl (.bool (decide (16 < he))) rfl (fun g29 => r_gtr (cond_of g29 rfl) rfl) ?_
  refine EL_val (.bool ((((((((decide (100 < (secret.length : Int))) || (decide (100 < (other.length : Int)))) || (decide (who < 1))) || (decide (16 < who))) || (decide (epoch < 1))) || (decide (16 < epoch))) || (decide (he < 1))) || (decide (16 < he)))) w11 rfl (r_or rfl rfl rfl) ?_
  refine EL_val (.bool ((((((((decide (100 < (secret.length : Int))) || (decide (100 < (other.length : Int)))) || (decide (who < 1))) || (decide (16 < who))) || (decide (epoch < 1))) || (decide (16 < epoch))) || (decide (he < 1))) || (decide (16 < he)))) w11 rfl (r_move rfl) ?_
  refine EL_gite 53 rfl rfl rfl (.int .i64 ten) rfl (fun g30 => r_move rfl) ?_
  refine EL_gite 53 rfl rfl rfl (.bool (decide (ten < 1))) rfl (fun g31 => r_lss (cond_of g31 rfl) rfl) ?_
  refine EL_val (.bool (((((((((decide (100 < (secret.length : Int))) || (decide (100 < (other.length : Int)))) || (decide (who < 1))) || (decide (16 < who))) || (decide (epoch < 1))) || (decide (16 < epoch))) || (decide (he < 1))) || (decide (16 < he))) || (decide (ten < 1)))) w11 rfl (r_or rfl rfl rfl) ?_
  refine EL_val (.bool (((((((((decide (100 < (secret.length : Int))) || (decide (100 < (other.length : Int)))) || (decide (who < 1))) || (decide (16 < who))) || (decide (epoch < 1))) || (decide (16 < epoch))) || (decide (he < 1))) || (decide (16 < he))) || (decide (ten < 1)))) w11 rfl (r_move rfl) ?_
  refine EL_gite 57 rfl rfl rfl (.int .i64 ten) rfl (fun g32 => r_move rfl) ?_
  refine EL_gite 57 rfl rfl rfl (.bool (decide (16 < ten))) rfl (fun g33 => r_gtr (cond_of g33 rfl) rfl) ?_
  refine EL_val (.bool ((((((((((decide (100 < (secret.length : Int))) || (decide (100 < (other.length : Int)))) || (decide (who < 1))) || (decide (16 < who))) || (decide (epoch < 1))) || (decide (16 < epoch))) || (decide (he < 1))) || (decide (16 < he))) || (decide (ten < 1))) || (decide (16 < ten)))) w11 rfl (r_or rfl rfl rfl) ?_
  refine EL_nil ?_
  refine thn_n ?_
  refine EC_cond (t := (((((((((decide (100 < (secret.length : Int))) || (decide (100 < (other.length : Int)))) || (decide (who < 1))) || (decide (16 < who))) || (decide (epoch < 1))) || (decide (16 < epoch))) || (decide (he < 1))) || (decide (16 < he))) || (decide (ten < 1))) || (decide (16 < ten))) rfl (fun h34 => ?_) (fun h34 => ?_)
  · simp at h34
    refine EC_seq ?_
    refine EC_reg ?_
    refine EL_val (.bool true) w11 rfl (r_assign rfl) ?_
    refine EL_nil ?_
    refine thn_n ?_
    refine EC_ret ?_
    refine thn_r ?_
    refine fin1 Try.results4 (show _ = .bool true from rfl) ⟨_, rfl, ?_⟩
    exact ⟨I13, le14, rfl, S12⟩
  · simp at h34
    refine EC_skip ?_
    refine thn_n ?_
    refine EC_seq ?_
    refine EC_reg ?_
    refine EL_ret _ rfl Try.func10 rfl nm10 rfl (Signs_c I13 _ _ S12) ?_
    rintro _ w35 ⟨p37, rfl, S36⟩
    refine EL_val p37 w35 rfl (r_assign rfl) ?_
    refine EL_nil ?_
    refine thn_n ?_
    refine EC_seq ?_
    refine EC_reg ?_
    refine EL_val p37 w35 rfl (r_move rfl) ?_
    refine EL_ret _ rfl Try.func11 rfl nm11 rfl (Key_c p37 ([] : List Thing) I13 _ _ S36 (Nat.le_trans (Nat.le_refl _) (by first | decide | (simp; done) | omega | (simp; omega)))) ?_
    rintro _ w38 ⟨v40, rfl, S39⟩
    have q42 : signOf 75 ((([] : List Thing).length : Int) + 1) = signOf 75 1 := rfl
    have S41 : Sat w38 I13 (OwnB v40 (signOf 75 1) :: Suite p37 (([] : List Thing) ++ [tKey]) :: R) := S39.as 0 rfl (congrArg (fun zz => OwnB v40 zz) q42)
    have q44 : ([] : List Thing) ++ [tKey] = [tKey] := rfl
    have S43 : Sat w38 I13 (OwnB v40 (signOf 75 1) :: Suite p37 [tKey] :: R) := S41.as 1 rfl (congrArg (fun zz => Suite p37 zz) q44)
    refine EL_val v40 w38 rfl (r_assign rfl) ?_
    refine EL_nil ?_
    refine thn_n ?_
    refine EC_seq ?_
    refine EC_reg ?_
    refine EL_val p37 w38 rfl (r_move rfl) ?_
    refine EL_val v0 w38 rfl (r_move rfl) ?_
    refine EL_val (.int .i64 who) w38 rfl (r_move rfl) ?_
    refine EL_val (.int .i64 epoch) w38 rfl (r_move rfl) ?_
    refine EL_val v40 w38 rfl (r_move rfl) ?_
    obtain ⟨I45, le46, S47, H48⟩ : ∃ J : Gh, Gh.le I13 J ∧ Sat w38 J (Suite p37 [tKey] :: R) ∧ Ro J v40 ((signOf 75 1).map byt) := S43.frz 0 rfl
    refine EL_ret _ rfl Try.func12 rfl nm12 rfl (Wrap_c p37 [tKey] v0 secret who epoch v40 (signOf 75 1) I45 _ _ S47 (Q0.up (Gh.le_trans le14 le46)) H48 (by decide) (by omega)) ?_
    rintro _ w49 ⟨v51, I52, le53, rfl, S50⟩
    have hE : wrapE who epoch (signOf 75 1) = 0 := by rw [wrapE, if_pos (spotW_iff.2 (by omega)), if_pos (show (signOf 75 1).length = 32 from rfl)]
    have hbl : (wrapB [tKey] secret who epoch (signOf 75 1)).length = 48 := by rw [wrapB, if_pos hE, box_len]
    refine EL_val (.tuple #[v51, .int .i64 (wrapE who epoch (signOf 75 1))]) w49 rfl (r_move rfl) ?_
    refine EL_val v51 w49 rfl (r_extract rfl rfl) ?_
    refine EL_val (.int .i64 (wrapE who epoch (signOf 75 1))) w49 rfl (r_extract rfl rfl) ?_
    refine EL_val v51 w49 rfl (r_assign rfl) ?_
    refine EL_val (.int .i64 (wrapE who epoch (signOf 75 1))) w49 rfl (r_assign rfl) ?_
    refine EL_nil ?_
    refine thn_n ?_
    refine EC_seq ?_
    refine EC_reg ?_
    refine EL_val p37 w49 rfl (r_move rfl) ?_
    refine EL_val v1 w49 rfl (r_move rfl) ?_
    refine EL_val (.int .i64 he) w49 rfl (r_move rfl) ?_
    refine EL_val (.int .i64 ten) w49 rfl (r_move rfl) ?_
    refine EL_val v51 w49 rfl (r_move rfl) ?_
    obtain ⟨I54, le55, S56, H57⟩ : ∃ J : Gh, Gh.le I52 J ∧ Sat w49 J (Suite p37 (wrapL [tKey] secret who epoch (signOf 75 1)) :: R) ∧ Ro J v51 ((wrapB [tKey] secret who epoch (signOf 75 1)).map byt) := S50.frz 0 rfl
    refine EL_ret _ rfl Try.func13 rfl nm13 rfl (Unwrap_c p37 (wrapL [tKey] secret who epoch (signOf 75 1)) v1 other he ten v51 (wrapB [tKey] secret who epoch (signOf 75 1)) I54 _ _ S56 (Q1.up (Gh.le_trans (Gh.le_trans (Gh.le_trans le14 le46) le53) le55)) H57 (by rw [wrapL, if_pos hE]; have := onceL_len (derT secret uMember who) [tKey]; simp at this ⊢; omega) (by omega) (by omega) (by rw [wrapL, if_pos hE]; exact small_snoc (small_once (by decide) (by simp [be6])) (show (signOf 75 1).length ≤ 800000000 from by decide))) ?_
    rintro _ w58 ⟨v60, I61, le62, rfl, H63, S59⟩
    have hu := wrap_unwrap (L := [tKey]) (s := secret) (s' := other) (k := signOf 75 1) (w := who) (e := epoch) (w' := he) (e' := ten) (by decide) rfl (spotW_iff.2 (by omega)) (spotW_iff.2 (by omega))
    have hsp : spotW he ten = true := spotW_iff.2 (by omega)
    refine EL_val (.tuple #[v60, .int .i64 (unwrapE (wrapL [tKey] secret who epoch (signOf 75 1)) other he ten (wrapB [tKey] secret who epoch (signOf 75 1)))]) w58 rfl (r_move rfl) ?_
    refine EL_val v60 w58 rfl (r_extract rfl rfl) ?_
    refine EL_val (.int .i64 (unwrapE (wrapL [tKey] secret who epoch (signOf 75 1)) other he ten (wrapB [tKey] secret who epoch (signOf 75 1)))) w58 rfl (r_extract rfl rfl) ?_
    refine EL_val v60 w58 rfl (r_assign rfl) ?_
    refine EL_val (.int .i64 (unwrapE (wrapL [tKey] secret who epoch (signOf 75 1)) other he ten (wrapB [tKey] secret who epoch (signOf 75 1)))) w58 rfl (r_assign rfl) ?_
    refine EL_nil ?_
    refine thn_n ?_
    refine EC_seq ?_
    refine EC_seq ?_
    refine EC_reg ?_
    refine EL_val (.int .i64 who) w58 rfl (r_move rfl) ?_
    refine EL_val (.int .i64 he) w58 rfl (r_move rfl) ?_
    refine EL_val (.bool (decide (who = he))) w58 rfl (r_eql rfl rfl) ?_
    refine EL_val (.bool (decide (who = he))) w58 rfl (r_move rfl) ?_
    refine EL_gite 85 rfl rfl rfl (.int .i64 epoch) rfl (fun g64 => r_move rfl) ?_
    refine EL_gite 85 rfl rfl rfl (.int .i64 ten) rfl (fun g65 => r_move rfl) ?_
    refine EL_gite 85 rfl rfl rfl (.bool (decide (epoch = ten))) rfl (fun g66 => r_eql (cond_of g66 rfl) (cond_of g66 rfl)) ?_
    refine EL_val (.bool ((decide (who = he)) && (decide (epoch = ten)))) w58 rfl (r_and rfl rfl rfl) ?_
    refine EL_val (.bool ((decide (who = he)) && (decide (epoch = ten)))) w58 rfl (r_move rfl) ?_
    refine EL_gite 90 rfl rfl rfl v0 rfl (fun g67 => r_move rfl) ?_
    refine EL_gite 90 rfl rfl rfl (.string (str secret)) rfl (fun g68 => r_str (cond_of g68 rfl) (Q0 _ (Gh.le_trans (Gh.le_trans (Gh.le_trans (Gh.le_trans (Gh.le_trans le14 le46) le53) le55) le62) S59.le)) Try.underlying23 Try.underlying5 Try.underlying9) ?_
    refine EL_gite 90 rfl rfl rfl v1 rfl (fun g69 => r_move rfl) ?_
    refine EL_gite 90 rfl rfl rfl (.string (str other)) rfl (fun g70 => r_str (cond_of g70 rfl) (Q1 _ (Gh.le_trans (Gh.le_trans (Gh.le_trans (Gh.le_trans (Gh.le_trans le14 le46) le53) le55) le62) S59.le)) Try.underlying23 Try.underlying5 Try.underlying9) ?_
    refine EL_gite 90 rfl rfl rfl (.bool (decide (secret = other))) rfl (fun g71 => r_eqls (cond_of g71 rfl) (cond_of g71 rfl)) ?_
    refine EL_val (.bool (((decide (who = he)) && (decide (epoch = ten))) && (decide (secret = other)))) w58 rfl (r_and rfl rfl rfl) ?_
    refine EL_nil ?_
    refine thn_n ?_
    refine EC_cond (t := ((decide (who = he)) && (decide (epoch = ten))) && (decide (secret = other))) rfl (fun h72 => ?_) (fun h72 => ?_)
    · have hu2 := hu.trans (if_pos (by simp at h72; exact ⟨h72.2, h72.1⟩))
      refine EC_seq ?_
      refine EC_reg ?_
      refine EL_val (.int .i64 (wrapE who epoch (signOf 75 1))) w58 rfl (r_move rfl) ?_
      refine EL_val (.bool true) w58 rfl (r_dec (show (decide ((wrapE who epoch (signOf 75 1)) = 0)) = true from by rw [hE]; rfl) (r_eql rfl rfl)) ?_
      refine EL_val (.bool true) w58 rfl (r_move rfl) ?_
      refine EL_gval 99 rfl rfl rfl rfl (.int .i64 (unwrapE (wrapL [tKey] secret who epoch (signOf 75 1)) other he ten (wrapB [tKey] secret who epoch (signOf 75 1)))) w58 rfl (r_move rfl) ?_
      refine EL_gval 99 rfl rfl rfl rfl (.bool true) w58 rfl (r_dec (show (decide ((unwrapE (wrapL [tKey] secret who epoch (signOf 75 1)) other he ten (wrapB [tKey] secret who epoch (signOf 75 1))) = 0)) = true from by rw [unwrapE, if_pos hsp, hu2]; rfl) (r_eql rfl rfl)) ?_
      refine EL_val (.bool true) w58 rfl (r_pickT rfl rfl) ?_
      refine EL_val (.bool true) w58 rfl (r_move rfl) ?_
      refine EL_gval 103 rfl rfl rfl rfl v60 w58 rfl (r_move rfl) ?_
      refine EL_gval 103 rfl rfl rfl rfl (.string (str (unwrapB (wrapL [tKey] secret who epoch (signOf 75 1)) other he ten (wrapB [tKey] secret who epoch (signOf 75 1))))) w58 rfl (r_str rfl (H63 _ S59.le) Try.underlying23 Try.underlying5 Try.underlying9) ?_
      refine EL_gval 103 rfl rfl rfl rfl v40 w58 rfl (r_move rfl) ?_
      refine EL_gval 103 rfl rfl rfl rfl (.string (str (signOf 75 1))) w58 rfl (r_str rfl (H48 _ (Gh.le_trans (Gh.le_trans (Gh.le_trans le53 le55) le62) S59.le)) Try.underlying23 Try.underlying5 Try.underlying9) ?_
      refine EL_gval 103 rfl rfl rfl rfl (.bool true) w58 rfl (r_dec (show (decide ((unwrapB (wrapL [tKey] secret who epoch (signOf 75 1)) other he ten (wrapB [tKey] secret who epoch (signOf 75 1))) = (signOf 75 1))) = true from by rw [unwrapB, if_pos hsp, hu2]; simp) (r_eqls rfl rfl)) ?_
      refine EL_val (.bool true) w58 rfl (r_pickT rfl rfl) ?_
      refine EL_val (.bool true) w58 rfl (r_assign rfl) ?_
      refine EL_nil ?_
      refine thn_n ?_
      refine EC_ret ?_
      refine thn_r ?_
      refine fin1 Try.results4 (show _ = .bool true from rfl) ⟨_, rfl, ?_⟩
      have S73 : Sat w58 I61 (R) := S59.drop 0 rfl
      exact ⟨I61, (Gh.le_trans (Gh.le_trans (Gh.le_trans (Gh.le_trans le14 le46) le53) le55) le62), rfl, S73⟩
    · have hu2 := hu.trans (if_neg (fun h => by simp [h] at h72))
      refine EC_skip ?_
      refine thn_n ?_
      refine EC_seq ?_
      refine EC_reg ?_
      refine EL_val (.int .i64 (wrapE who epoch (signOf 75 1))) w58 rfl (r_move rfl) ?_
      refine EL_val (.bool true) w58 rfl (r_dec (show (decide ((wrapE who epoch (signOf 75 1)) = 0)) = true from by rw [hE]; rfl) (r_eql rfl rfl)) ?_
      refine EL_val (.bool true) w58 rfl (r_move rfl) ?_
      refine EL_gval 112 rfl rfl rfl rfl (.int .i64 (unwrapE (wrapL [tKey] secret who epoch (signOf 75 1)) other he ten (wrapB [tKey] secret who epoch (signOf 75 1)))) w58 rfl (r_move rfl) ?_
      refine EL_gval 112 rfl rfl rfl rfl (.bool true) w58 rfl (r_dec (show (decide ((unwrapE (wrapL [tKey] secret who epoch (signOf 75 1)) other he ten (wrapB [tKey] secret who epoch (signOf 75 1))) = 20)) = true from by rw [unwrapE, if_pos hsp, hu2]; rfl) (r_eql rfl rfl)) ?_
      refine EL_val (.bool true) w58 rfl (r_pickT rfl rfl) ?_
      refine EL_val (.bool true) w58 rfl (r_move rfl) ?_
      refine EL_gval 116 rfl rfl rfl rfl v60 w58 rfl (r_move rfl) ?_
      refine EL_gval 116 rfl rfl rfl rfl (.int .i64 ((unwrapB (wrapL [tKey] secret who epoch (signOf 75 1)) other he ten (wrapB [tKey] secret who epoch (signOf 75 1))).length : Int)) w58 rfl (lenB (r_len rfl (H63 _ S59.le) Try.underlying23)) ?_
      refine EL_gval 116 rfl rfl rfl rfl (.bool true) w58 rfl (r_dec (show (decide (((unwrapB (wrapL [tKey] secret who epoch (signOf 75 1)) other he ten (wrapB [tKey] secret who epoch (signOf 75 1))).length : Int) = 0)) = true from by rw [unwrapB, if_pos hsp, hu2]; rfl) (r_eql rfl rfl)) ?_
      refine EL_val (.bool true) w58 rfl (r_pickT rfl rfl) ?_
      refine EL_val (.bool true) w58 rfl (r_assign rfl) ?_
      refine EL_nil ?_
      refine thn_n ?_
      refine EC_ret ?_
      refine fin1 Try.results4 (show _ = .bool true from rfl) ⟨_, rfl, ?_⟩
      have S74 : Sat w58 I61 (R) := S59.drop 0 rfl
      exact ⟨I61, (Gh.le_trans (Gh.le_trans (Gh.le_trans (Gh.le_trans le14 le46) le53) le55) le62), rfl, S74⟩
theorem RingWraps_c (v0 : Value) (secret : List UInt8) (v1 : Value) (other : List UInt8) (who : Int) (epoch : Int) (he : Int) (ten : Int) (w : World) (H0 : Bs w v0 secret) (H1 : Bs w v1 other) (rwho : -9223372036854775808 ≤ who ∧ who ≤ 9223372036854775807) (repoch : -9223372036854775808 ≤ epoch ∧ epoch ≤ 9223372036854775807) (rhe : -9223372036854775808 ≤ he ∧ he ≤ 9223372036854775807) (rten : -9223372036854775808 ≤ ten ∧ ten ≤ 9223372036854775807) : Ret Try.prog 4 [v0, v1, .int .i64 who, .int .i64 epoch, .int .i64 he, .int .i64 ten] w fun v w' => v = .bool true ∧ Below w.heap.size w w' :=
  (RingWraps_w v0 secret v1 other who epoch he ten (gh w) [] w (Sat.start w) (Row.ro H0) (Row.ro H1) rwho repoch rhe rten).mono fun v w' h => by obtain ⟨J, le, e, S⟩ := h; exact ⟨e.symm, S.fin le⟩
theorem own : ownKnob Try.prog.godebug = none := by kernel_rfl
theorem laidOut : laidOutB Try.prog = true := by kernel_rfl
set_option maxRecDepth 100000 in
theorem lifted (os : Os) (started : os.Started) (H : Type) (enc : TypeId × Value → H) :
    ReturnsInHanded {} Try.checked os 4 .any (Rows.ringWrapsSpec.pre6 enc Try.prog Try.f4 Rows.ringWrapsRow.domain false) (Rows.ringWrapsSpec.post enc Try.prog Try.f4 false true false false) := by
  refine returnsInHanded_of_change (C := Try.checked) own started (by kernel_rfl) Try.func4
    (ChangeSpec.witness6 (enc := enc) (C := Try.checked) false ⟨#[], #[.slice none 0 0, .slice none 0 0, .int .i64 0, .int .i64 0, .int .i64 0, .int .i64 0], []⟩ 8 (by kernel_rfl) (by kernel_rfl) (by kernel_rfl) (by kernel_rfl)) ?_
  intro W base args ds gs before hval0 hW hcnd _
  have hval : ∀ (j : Nat) t v, Try.f4.params[j]? = some t → args[j]? = some v → Value.okWide Try.prog W .any base t v := hval0
  have hW' := hW
  obtain ⟨p, q, hA0, hV, rfl, hfz, hnd⟩ := hW
  have hA : DataW.TrodAll enc Try.prog W 0 (fun _ => true) true Try.f4.params.toList args.toList ds p := hA0
  rw [Try.params4] at hA hval
  obtain ⟨v0, vs0, d0, ds0, p0, q0, hargs, rfl, rfl, h0, r0⟩ := trodAll_cons hA
  obtain ⟨v1, vs1, d1, ds1, p1, q1, rfl, rfl, rfl, h1, r1⟩ := trodAll_cons r0
  obtain ⟨v2, vs2, d2, ds2, p2, q2, rfl, rfl, rfl, h2, r2⟩ := trodAll_cons r1
  obtain ⟨v3, vs3, d3, ds3, p3, q3, rfl, rfl, rfl, h3, r3⟩ := trodAll_cons r2
  obtain ⟨v4, vs4, d4, ds4, p4, q4, rfl, rfl, rfl, h4, r4⟩ := trodAll_cons r3
  obtain ⟨v5, vs5, d5, ds5, p5, q5, rfl, rfl, rfl, h5, r5⟩ := trodAll_cons r4
  obtain ⟨rfl, rfl, rfl⟩ := trodAll_nil r5
  obtain rfl : args = #[v0, v1, v2, v3, v4, v5] := by cases args; simp_all
  obtain ⟨rfl, rfl⟩ := trodVars_none hV
  have k0 := h0
  have lt0 : ∀ x ∈ p0, x.block < W.heap.size := by obtain ⟨m, hm⟩ := k0; exact DataW.trod_lt m _ _ _ hm
  obtain ⟨a0, len0, cap0, rfl⟩ := okWide_slice Try.underlying23 (hval 0 23 v0 rfl rfl)
  obtain ⟨b0, H0⟩ : ∃ l, Bs W (.slice a0 len0 cap0) l := by
    obtain ⟨fuel, hf⟩ := h0
    rcases open_ints Try.underlying23 Try.underlying5 (by kernel_rfl) hf with ⟨hcs, _⟩ | ⟨x, l, c, zs, hcs, _, hl, hm, hz, _, hcell, hwz⟩
    · simp [Value.cells] at hcs
      obtain ⟨rfl, rfl, rfl⟩ := hcs
      exact ⟨[], Row.nil W⟩
    · simp [Value.cells] at hcs
      obtain ⟨rfl, rfl, rfl⟩ := hcs
      exact bs_open hl hm (by simpa using hz) hcell hwz
  have k1 := h1
  have lt1 : ∀ x ∈ p1, x.block < W.heap.size := by obtain ⟨m, hm⟩ := k1; exact DataW.trod_lt m _ _ _ hm
  obtain ⟨a1, len1, cap1, rfl⟩ := okWide_slice Try.underlying23 (hval 1 23 v1 rfl rfl)
  obtain ⟨b1, H1⟩ : ∃ l, Bs W (.slice a1 len1 cap1) l := by
    obtain ⟨fuel, hf⟩ := h1
    rcases open_ints Try.underlying23 Try.underlying5 (by kernel_rfl) hf with ⟨hcs, _⟩ | ⟨x, l, c, zs, hcs, _, hl, hm, hz, _, hcell, hwz⟩
    · simp [Value.cells] at hcs
      obtain ⟨rfl, rfl, rfl⟩ := hcs
      exact ⟨[], Row.nil W⟩
    · simp [Value.cells] at hcs
      obtain ⟨rfl, rfl, rfl⟩ := hcs
      exact bs_open hl hm (by simpa using hz) hcell hwz
  have k2 := h2
  have lt2 : ∀ x ∈ p2, x.block < W.heap.size := by obtain ⟨m, hm⟩ := k2; exact DataW.trod_lt m _ _ _ hm
  obtain ⟨a2, rfl, rfl, rfl, w2⟩ := open_int Try.underlying3 (hval 2 3 v2 rfl rfl) h2
  have k3 := h3
  have lt3 : ∀ x ∈ p3, x.block < W.heap.size := by obtain ⟨m, hm⟩ := k3; exact DataW.trod_lt m _ _ _ hm
  obtain ⟨a3, rfl, rfl, rfl, w3⟩ := open_int Try.underlying3 (hval 3 3 v3 rfl rfl) h3
  have k4 := h4
  have lt4 : ∀ x ∈ p4, x.block < W.heap.size := by obtain ⟨m, hm⟩ := k4; exact DataW.trod_lt m _ _ _ hm
  obtain ⟨a4, rfl, rfl, rfl, w4⟩ := open_int Try.underlying3 (hval 4 3 v4 rfl rfl) h4
  have k5 := h5
  have lt5 : ∀ x ∈ p5, x.block < W.heap.size := by obtain ⟨m, hm⟩ := k5; exact DataW.trod_lt m _ _ _ hm
  obtain ⟨a5, rfl, rfl, rfl, w5⟩ := open_int Try.underlying3 (hval 5 3 v5 rfl rfl) h5
  clear hA0 hval0
  refine Calls.mono (RingWraps_c (.slice a0 len0 cap0) b0 (.slice a1 len1 cap1) b1 a2 a3 a4 a5 W H0 H1 (rng_i64 w2) (rng_i64 w3) (rng_i64 w4) (rng_i64 w5)) fun e W' ⟨v', he, hv, bel⟩ => ?_
  subst he
  subst hv
  exact ⟨_, rfl, _, _, _, [], _, [], hW', trodAll_mk1 (shut_bool Try.underlying4 _), (trodAll_cons_mk (Below.trod laidOut (by kernel_rfl) (of_decide_eq_true (by kernel_rfl)) k0 bel lt0) (trodAll_cons_mk (Below.trod laidOut (by kernel_rfl) (of_decide_eq_true (by kernel_rfl)) k1 bel lt1) (trodAll_cons_mk (Below.trod laidOut (by kernel_rfl) (of_decide_eq_true (by kernel_rfl)) k2 bel lt2) (trodAll_cons_mk (Below.trod laidOut (by kernel_rfl) (of_decide_eq_true (by kernel_rfl)) k3 bel lt3) (trodAll_cons_mk (Below.trod laidOut (by kernel_rfl) (of_decide_eq_true (by kernel_rfl)) k4 bel lt4) (trodAll_cons_mk (Below.trod laidOut (by kernel_rfl) (of_decide_eq_true (by kernel_rfl)) k5 bel lt5) trodAll_mk0)))))), rfl, bel.frame _, fun h => by cases h⟩
theorem over : Rows.ringWrapsRow.holds Try.pinned (OpenSpec.ofChange Rows.ringWrapsSpec) :=
  OpenClaim.holds_of_wide 4 Try.f4 rfl rfl rfl rfl rfl rfl rfl ⟨rfl, rfl, rfl, rfl, rfl⟩ rfl rfl rfl rfl rfl (by kernel_rfl) Try.func4 (by kernel_rfl)
    (of_decide_eq_true (by kernel_rfl)) (by unfold Func.isWrapper; first | (rw [if_pos (by decide +kernel)]; kernel_rfl) | (rw [if_neg (by decide +kernel)]; exact ⟨rfl, rfl⟩))
    (fun os started H enc _ => lifted os started H enc)
end Go.Proofs.Ytdnlkkgbgjibgaa.ringWraps
namespace Go.Proofs.Ytdnlkkgbgjibgaa
theorem RingWraps_holds : Rows.RingWrapsSaid := ringWraps.over
end Go.Proofs.Ytdnlkkgbgjibgaa
