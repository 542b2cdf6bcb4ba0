/-
  By signs members' and writers' keys are the same just if use, number and secret are.
  Its conditions: none: whatever the input, in whatever memory.
-/
import Derived.Test.YtdnlkkgbgjibgaaRows
import Derived.Test.YtdnlkkgbgjibgaaAnc
import Derived.ProofKit
import Derived.OpenShut
import Derived.ShutString
import Derived.ChangeOld
set_option linter.unusedVariables false
set_option linter.unusedSimpArgs false
namespace Go.Proofs.Ytdnlkkgbgjibgaa.ringUses
open Go.ChangeShapes Go.WideShapes Go.ChangeAt Go.RowKit Go.Ecal
open Go.ChangeMaps (open_string shut_string)
theorem uses_eq {a b : List UInt8} {m n : Int} (hm : 1 ≤ m ∧ m ≤ 16) (hn : 1 ≤ n ∧ n ≤ 16) : (decide (keyFor [] a uMember m = keyFor (onceL (derT a uMember m) []) b uMember n) == (decide (a = b) && decide (m = n))) = true := by
  have h := keys_iff0 (L := []) (s := a) (s' := b) (u := uMember) (u' := uMember) (n := m) (m := n) (Nat.le_trans (onceL_len _ _) (by decide))
  rw [derT_iff (by omega) (by omega) rfl] at h
  have h2 : keyFor [] a uMember m = keyFor (onceL (derT a uMember m) []) b uMember n ↔ a = b ∧ m = n := by rw [h]; simp
  exact beq_iff_eq.2 ((decide_eq_decide.2 h2).trans (Bool.decide_and _ _))
theorem uses_ne {L M : List Thing} {a b : List UInt8} {m n : Int} (hm : 1 ≤ m ∧ m ≤ 16) (hn : 1 ≤ n ∧ n ≤ 16) (hl : (onceL (derT a uMember m) L ++ M).length ≤ 1000000) : keyFor L a uMember m ≠ keyFor (onceL (derT a uMember m) L ++ M) b uWriter n := by
  rw [Ne, keys_iff hl, derT_iff (u := uMember) (u' := uWriter) (by omega) (by omega) rfl]
  rintro ⟨_, h, _⟩; revert h; decide
theorem uses_ne1 {a b : List UInt8} {m n : Int} (hm : 1 ≤ m ∧ m ≤ 16) (hn : 1 ≤ n ∧ n ≤ 16) : decide (keyFor [] a uMember m ≠ keyFor (onceL (derT b uMember n) (onceL (derT a uMember m) [])) b uWriter n) = true := by
  obtain ⟨M, e⟩ := onceL_app (derT b uMember n) (onceL (derT a uMember m) [])
  have h1 := onceL_len (derT b uMember n) (onceL (derT a uMember m) [])
  have h2 := onceL_len (derT a uMember m) []
  rw [decide_eq_true_eq, e]
  exact uses_ne hm hn (by rw [← e]; simp at h2; omega)
theorem uses_ne2 {a b : List UInt8} {m n : Int} (hn : 1 ≤ n ∧ n ≤ 16) : decide (keyFor (onceL (derT a uMember m) []) b uMember n ≠ keyFor (onceL (derT b uMember n) (onceL (derT a uMember m) [])) b uWriter n) = true := by
  have h1 := onceL_len (derT b uMember n) (onceL (derT a uMember m) [])
  have h2 := onceL_len (derT a uMember m) []
  rw [decide_eq_true_eq]
  have := uses_ne (L := onceL (derT a uMember m) []) (M := []) (a := b) (b := b) hn hn (by simp at h2 ⊢; omega)
  simpa using this
set_option maxRecDepth 100000 in
set_option maxHeartbeats 4000000 in
theorem RingUses_w (v0 : Value) (a : List UInt8) (v1 : Value) (b : List UInt8) (m : Int) (n : Int) (I : Gh) (R : List HP) (w : World) (S : Sat w I (R)) (Q0 : RoB I v0 a) (Q1 : RoB I v1 b) (rm : -9223372036854775808 ≤ m ∧ m ≤ 9223372036854775807) (rn : -9223372036854775808 ≤ n ∧ n ≤ 9223372036854775807) : Ret Try.prog 5 [v0, v1, .int .i64 m, .int .i64 n] w fun v w' => ∃ J : Gh, Gh.le I J ∧ .bool true = v ∧ Sat w' J (R) := by
  have lq0 := RoB.le Q0 S.le
  have lq1 := RoB.le Q1 S.le
  refine ret_E Try.func5 rfl Try.ntmps5 (by simp) ?_
  refine EC_seq ?_
  refine EC_reg ?_
  refine EL_val (.bool false) w rfl (r_assign rfl) ?_
  refine EL_nil ?_
  refine thn_n ?_
  refine EC_seq ?_
  refine EC_seq ?_
  refine EC_reg ?_
  refine EL_ret _ rfl Try.func8 rfl nm8 rfl (anchor_c I _ _ S) ?_
  rintro _ w11 ⟨I13, le14, rfl, S12⟩
  refine EL_val (.bool false) w11 rfl (r_dec (show (!true) = false from rfl) (r_not rfl)) ?_
  refine EL_nil ?_
  refine thn_n ?_
  refine EC_cond_false rfl ?_
  refine EC_skip ?_
  refine thn_n ?_
  refine EC_seq ?_
  refine EC_seq ?_
  refine EC_reg ?_
  refine EL_val v0 w11 rfl (r_move rfl) ?_
  refine EL_val (.int .i64 (a.length : Int)) w11 rfl (lenB (r_len rfl (Q0 _ (Gh.le_trans le14 S12.le)) Try.underlying23)) ?_
  refine EL_val (.bool (decide (100 < (a.length : Int)))) w11 rfl (r_gtr rfl rfl) ?_
  refine EL_val (.bool (decide (100 < (a.length : Int)))) w11 rfl (r_move rfl) ?_
  refine EL_gite 21 rfl rfl rfl v1 rfl (fun g15 => r_move rfl) ?_
  refine EL_gite 21 rfl rfl rfl (.int .i64 (b.length : Int)) rfl (fun g16 => lenB (r_len (cond_of g16 rfl) (Q1 _ (Gh.le_trans le14 S12.le)) Try.underlying23)) ?_
  refine EL_gite 21 rfl rfl rfl (.bool (decide (100 < (b.length : Int)))) rfl (fun g17 => r_gtr (cond_of g17 rfl) rfl) ?_
  refine EL_val (.bool ((decide (100 < (a.length : Int))) || (decide (100 < (b.length : Int))))) w11 rfl (r_or rfl rfl rfl) ?_
  refine EL_nil ?_
  refine thn_n ?_
  refine EC_cond (t := (decide (100 < (a.length : Int))) || (decide (100 < (b.length : Int)))) rfl (fun h18 => ?_) (fun h18 => ?_)
  · simp at h18
    refine EC_seq ?_
    refine EC_reg ?_
    refine EL_val (.bool true) w11 rfl (r_assign rfl) ?_
    refine EL_nil ?_
    refine thn_n ?_
    refine EC_ret ?_
    refine thn_r ?_
    refine fin1 Try.results5 (show _ = .bool true from rfl) ⟨_, rfl, ?_⟩
    exact ⟨I13, le14, rfl, S12⟩
  · simp at h18
    refine EC_skip ?_
    refine thn_n ?_
    refine EC_seq ?_
    refine EC_reg ?_
    refine EL_ret _ rfl Try.func10 rfl nm10 rfl (Signs_c I13 _ _ S12) ?_
    rintro _ w19 ⟨p21, rfl, S20⟩
    refine EL_val p21 w19 rfl (r_assign rfl) ?_
    refine EL_nil ?_
    refine thn_n ?_
    refine EC_seq ?_
    rcases (by cases rightW m <;> cases rightW n <;> simp : (rightW m = true ∧ rightW n = true) ∨ (rightW m = true ∧ rightW n = false) ∨ (rightW m = false ∧ rightW n = true) ∨ (rightW m = false ∧ rightW n = false)) with ⟨hm, hn⟩ | ⟨hm, hn⟩ | ⟨hm, hn⟩ | ⟨hm, hn⟩
    · have hmi := rightW_iff.1 hm
      have hni := rightW_iff.1 hn
      refine EC_reg ?_
      refine EL_val p21 w19 rfl (r_move rfl) ?_
      refine EL_val v0 w19 rfl (r_move rfl) ?_
      refine EL_val (.int .i64 m) w19 rfl (r_move rfl) ?_
      refine EL_ret _ rfl Try.func14 rfl nm14 rfl (Member_c p21 ([] : List Thing) v0 a m I13 _ _ S20 (Q0.up le14) (Nat.le_trans (Nat.le_refl _) (by first | decide | (simp; done) | omega | (simp; omega))) (by omega)) ?_
      rintro _ w22 ⟨v24, I25, le26, rfl, S23⟩
      have q28 : rightB ([] : List Thing) a uMember m = keyFor ([] : List Thing) a uMember m := by rw [rightB, if_pos hm]
      have S27 : Sat w22 I25 (OwnB v24 (keyFor ([] : List Thing) a uMember m) :: Suite p21 (rightL ([] : List Thing) a uMember m) :: R) := S23.as 0 rfl (congrArg (fun zz => OwnB v24 zz) q28)
      have q30 : rightL ([] : List Thing) a uMember m = onceL (derT a uMember m) ([] : List Thing) := by rw [rightL, if_pos hm]
      have S29 : Sat w22 I25 (OwnB v24 (keyFor ([] : List Thing) a uMember m) :: Suite p21 (onceL (derT a uMember m) ([] : List Thing)) :: R) := S27.as 1 rfl (congrArg (fun zz => Suite p21 zz) q30)
      refine EL_val (.tuple #[v24, .int .i64 (rightE m)]) w22 rfl (r_move rfl) ?_
      refine EL_val v24 w22 rfl (r_extract rfl rfl) ?_
      refine EL_val (.int .i64 (rightE m)) w22 rfl (r_extract rfl rfl) ?_
      refine EL_val v24 w22 rfl (r_assign rfl) ?_
      refine EL_val (.int .i64 (rightE m)) w22 rfl (r_assign rfl) ?_
      refine EL_nil ?_
      refine thn_n ?_
      refine EC_seq ?_
      refine EC_reg ?_
      refine EL_val p21 w22 rfl (r_move rfl) ?_
      refine EL_val v1 w22 rfl (r_move rfl) ?_
      refine EL_val (.int .i64 n) w22 rfl (r_move rfl) ?_
      have S31 : Sat w22 I25 (Suite p21 (onceL (derT a uMember m) ([] : List Thing)) :: OwnB v24 (keyFor ([] : List Thing) a uMember m) :: R) := S29.cons_front (i := 1) rfl
      refine EL_ret _ rfl Try.func14 rfl nm14 rfl (Member_c p21 (onceL (derT a uMember m) ([] : List Thing)) v1 b n I25 _ _ S31 (Q1.up (Gh.le_trans le14 le26)) (Nat.le_trans (Nat.le_trans (onceL_len _ _) (Nat.succ_le_succ (Nat.le_refl _))) (by first | decide | (simp; done) | omega | (simp; omega))) (by omega)) ?_
      rintro _ w32 ⟨v34, I35, le36, rfl, S33⟩
      have q38 : rightB (onceL (derT a uMember m) ([] : List Thing)) b uMember n = keyFor (onceL (derT a uMember m) ([] : List Thing)) b uMember n := by rw [rightB, if_pos hn]
      have S37 : Sat w32 I35 (OwnB v34 (keyFor (onceL (derT a uMember m) ([] : List Thing)) b uMember n) :: Suite p21 (rightL (onceL (derT a uMember m) ([] : List Thing)) b uMember n) :: OwnB v24 (keyFor ([] : List Thing) a uMember m) :: R) := S33.as 0 rfl (congrArg (fun zz => OwnB v34 zz) q38)
      have q40 : rightL (onceL (derT a uMember m) ([] : List Thing)) b uMember n = onceL (derT b uMember n) (onceL (derT a uMember m) ([] : List Thing)) := by rw [rightL, if_pos hn]
      have S39 : Sat w32 I35 (OwnB v34 (keyFor (onceL (derT a uMember m) ([] : List Thing)) b uMember n) :: Suite p21 (onceL (derT b uMember n) (onceL (derT a uMember m) ([] : List Thing))) :: OwnB v24 (keyFor ([] : List Thing) a uMember m) :: R) := S37.as 1 rfl (congrArg (fun zz => Suite p21 zz) q40)
      refine EL_val (.tuple #[v34, .int .i64 (rightE n)]) w32 rfl (r_move rfl) ?_
      refine EL_val v34 w32 rfl (r_extract rfl rfl) ?_
      refine EL_val (.int .i64 (rightE n)) w32 rfl (r_extract rfl rfl) ?_
      refine EL_val v34 w32 rfl (r_assign rfl) ?_
      refine EL_val (.int .i64 (rightE n)) w32 rfl (r_assign rfl) ?_
      refine EL_nil ?_
      refine thn_n ?_
      refine EC_seq ?_
      refine EC_reg ?_
      refine EL_val p21 w32 rfl (r_move rfl) ?_
      refine EL_val v1 w32 rfl (r_move rfl) ?_
      refine EL_val (.int .i64 n) w32 rfl (r_move rfl) ?_
      have S41 : Sat w32 I35 (Suite p21 (onceL (derT b uMember n) (onceL (derT a uMember m) ([] : List Thing))) :: OwnB v34 (keyFor (onceL (derT a uMember m) ([] : List Thing)) b uMember n) :: OwnB v24 (keyFor ([] : List Thing) a uMember m) :: R) := S39.cons_front (i := 1) rfl
      refine EL_ret _ rfl Try.func15 rfl nm15 rfl (Writer_c p21 (onceL (derT b uMember n) (onceL (derT a uMember m) ([] : List Thing))) v1 b n I35 _ _ S41 (Q1.up (Gh.le_trans (Gh.le_trans le14 le26) le36)) (Nat.le_trans (Nat.le_trans (onceL_len _ _) (Nat.succ_le_succ (Nat.le_trans (onceL_len _ _) (Nat.succ_le_succ (Nat.le_refl _))))) (by first | decide | (simp; done) | omega | (simp; omega))) (by omega)) ?_
      rintro _ w42 ⟨v44, I45, le46, rfl, S43⟩
      have q48 : rightB (onceL (derT b uMember n) (onceL (derT a uMember m) ([] : List Thing))) b uWriter n = keyFor (onceL (derT b uMember n) (onceL (derT a uMember m) ([] : List Thing))) b uWriter n := by rw [rightB, if_pos hn]
      have S47 : Sat w42 I45 (OwnB v44 (keyFor (onceL (derT b uMember n) (onceL (derT a uMember m) ([] : List Thing))) b uWriter n) :: Suite p21 (rightL (onceL (derT b uMember n) (onceL (derT a uMember m) ([] : List Thing))) b uWriter n) :: OwnB v34 (keyFor (onceL (derT a uMember m) ([] : List Thing)) b uMember n) :: OwnB v24 (keyFor ([] : List Thing) a uMember m) :: R) := S43.as 0 rfl (congrArg (fun zz => OwnB v44 zz) q48)
      have q50 : rightL (onceL (derT b uMember n) (onceL (derT a uMember m) ([] : List Thing))) b uWriter n = onceL (derT b uWriter n) (onceL (derT b uMember n) (onceL (derT a uMember m) ([] : List Thing))) := by rw [rightL, if_pos hn]
      have S49 : Sat w42 I45 (OwnB v44 (keyFor (onceL (derT b uMember n) (onceL (derT a uMember m) ([] : List Thing))) b uWriter n) :: Suite p21 (onceL (derT b uWriter n) (onceL (derT b uMember n) (onceL (derT a uMember m) ([] : List Thing)))) :: OwnB v34 (keyFor (onceL (derT a uMember m) ([] : List Thing)) b uMember n) :: OwnB v24 (keyFor ([] : List Thing) a uMember m) :: R) := S47.as 1 rfl (congrArg (fun zz => Suite p21 zz) q50)
      refine EL_val (.tuple #[v44, .int .i64 (rightE n)]) w42 rfl (r_move rfl) ?_
      refine EL_val v44 w42 rfl (r_extract rfl rfl) ?_
      refine EL_val (.int .i64 (rightE n)) w42 rfl (r_extract rfl rfl) ?_
      refine EL_val v44 w42 rfl (r_assign rfl) ?_
      refine EL_val (.int .i64 (rightE n)) w42 rfl (r_assign rfl) ?_
      refine EL_nil ?_
      refine thn_n ?_
      refine EC_seq ?_
      refine EC_seq ?_
      refine EC_reg ?_
      refine EL_val (.int .i64 (rightE m)) w42 rfl (r_move rfl) ?_
      refine EL_val (.bool true) w42 rfl (r_dec (show (decide ((rightE m) = 0)) = true from by rw [rightE, hm]; rfl) (r_eql rfl rfl)) ?_
      refine EL_val (.int .i64 m) w42 rfl (r_move rfl) ?_
      refine EL_val (.bool (decide (1 ≤ m))) w42 rfl (r_geq rfl rfl) ?_
      refine EL_val (.bool (decide (1 ≤ m))) w42 rfl (r_move rfl) ?_
      refine EL_gite 52 rfl rfl rfl (.int .i64 m) rfl (fun g51 => r_move rfl) ?_
      refine EL_gite 52 rfl rfl rfl (.bool (decide (m ≤ 16))) rfl (fun g52 => r_leq (cond_of g52 rfl) rfl) ?_
      refine EL_val (.bool ((decide (1 ≤ m)) && (decide (m ≤ 16)))) w42 rfl (r_and rfl rfl rfl) ?_
      refine EL_val (.bool false) w42 rfl (r_dec (show (true != ((decide (1 ≤ m)) && (decide (m ≤ 16)))) = false from by first | rfl | (simp; omega)) (r_neqb rfl rfl Try.underlying4)) ?_
      refine EL_val (.bool false) w42 rfl (r_move rfl) ?_
      refine EL_gval 57 rfl rfl rfl rfl (.int .i64 (rightE n)) w42 rfl (r_move rfl) ?_
      refine EL_gval 57 rfl rfl rfl rfl (.int .i64 (rightE n)) w42 rfl (r_move rfl) ?_
      refine EL_gval 57 rfl rfl rfl rfl (.bool false) w42 rfl (r_dec (show (decide ((rightE n) ≠ (rightE n))) = false from by simp) (r_neq rfl rfl)) ?_
      refine EL_val (.bool false) w42 rfl (r_pickF rfl rfl) ?_
      refine EL_val (.bool false) w42 rfl (r_move rfl) ?_
      refine EL_gval 62 rfl rfl rfl rfl (.int .i64 (rightE n)) w42 rfl (r_move rfl) ?_
      refine EL_gval 62 rfl rfl rfl rfl (.bool true) w42 rfl (r_dec (show (decide ((rightE n) = 0)) = true from by rw [rightE, hn]; rfl) (r_eql rfl rfl)) ?_
      refine EL_gval 62 rfl rfl rfl rfl (.int .i64 n) w42 rfl (r_move rfl) ?_
      refine EL_gval 62 rfl rfl rfl rfl (.bool (decide (1 ≤ n))) w42 rfl (r_geq rfl rfl) ?_
      refine EL_gval 62 rfl rfl rfl rfl (.bool (decide (1 ≤ n))) w42 rfl (r_move rfl) ?_
      refine EL_gite 67 rfl rfl rfl (.int .i64 n) rfl (fun g53 => r_move rfl) ?_
      refine EL_gite 67 rfl rfl rfl (.bool (decide (n ≤ 16))) rfl (fun g54 => r_leq (cond_of g54 rfl) rfl) ?_
      refine EL_gval 62 rfl rfl rfl rfl (.bool ((decide (1 ≤ n)) && (decide (n ≤ 16)))) w42 rfl (r_and rfl rfl rfl) ?_
      refine EL_gval 62 rfl rfl rfl rfl (.bool false) w42 rfl (r_dec (show (true != ((decide (1 ≤ n)) && (decide (n ≤ 16)))) = false from by first | rfl | (simp; omega)) (r_neqb rfl rfl Try.underlying4)) ?_
      refine EL_val (.bool false) w42 rfl (r_pickF rfl rfl) ?_
      refine EL_nil ?_
      refine thn_n ?_
      refine EC_cond_false rfl ?_
      refine EC_skip ?_
      refine thn_n ?_
      refine EC_seq ?_
      refine EC_reg ?_
      refine EL_val (.int .i64 (rightE m)) w42 rfl (r_move rfl) ?_
      refine EL_val (.bool false) w42 rfl (r_dec (show (decide ((rightE m) ≠ 0)) = false from by rw [rightE, hm]; rfl) (r_neq rfl rfl)) ?_
      refine EL_val (.bool false) w42 rfl (r_move rfl) ?_
      refine EL_gval 75 rfl rfl rfl rfl (.int .i64 (rightE n)) w42 rfl (r_move rfl) ?_
      refine EL_gval 75 rfl rfl rfl rfl (.bool false) w42 rfl (r_dec (show (decide ((rightE n) ≠ 0)) = false from by rw [rightE, hn]; rfl) (r_neq rfl rfl)) ?_
      refine EL_val (.bool false) w42 rfl (r_pickF rfl rfl) ?_
      refine EL_val (.bool false) w42 rfl (r_move rfl) ?_
      refine EL_gval 79 rfl rfl rfl rfl v24 w42 rfl (r_move rfl) ?_
      refine EL_gval 79 rfl rfl rfl rfl (.string (str (keyFor ([] : List Thing) a uMember m))) w42 rfl (r_str rfl (own_row (S49.own 3 rfl)) Try.underlying23 Try.underlying5 Try.underlying9) ?_
      refine EL_gval 79 rfl rfl rfl rfl v34 w42 rfl (r_move rfl) ?_
      refine EL_gval 79 rfl rfl rfl rfl (.string (str (keyFor (onceL (derT a uMember m) ([] : List Thing)) b uMember n))) w42 rfl (r_str rfl (own_row (S49.own 2 rfl)) Try.underlying23 Try.underlying5 Try.underlying9) ?_
      refine EL_gval 79 rfl rfl rfl rfl (.bool (decide ((keyFor ([] : List Thing) a uMember m) = (keyFor (onceL (derT a uMember m) ([] : List Thing)) b uMember n)))) w42 rfl (r_eqls rfl rfl) ?_
      refine EL_gval 79 rfl rfl rfl rfl v0 w42 rfl (r_move rfl) ?_
      refine EL_gval 79 rfl rfl rfl rfl (.string (str a)) w42 rfl (r_str rfl (Q0 _ (Gh.le_trans (Gh.le_trans (Gh.le_trans (Gh.le_trans le14 le26) le36) le46) S49.le)) Try.underlying23 Try.underlying5 Try.underlying9) ?_
      refine EL_gval 79 rfl rfl rfl rfl v1 w42 rfl (r_move rfl) ?_
      refine EL_gval 79 rfl rfl rfl rfl (.string (str b)) w42 rfl (r_str rfl (Q1 _ (Gh.le_trans (Gh.le_trans (Gh.le_trans (Gh.le_trans le14 le26) le36) le46) S49.le)) Try.underlying23 Try.underlying5 Try.underlying9) ?_
      refine EL_gval 79 rfl rfl rfl rfl (.bool (decide (a = b))) w42 rfl (r_eqls rfl rfl) ?_
      refine EL_gval 79 rfl rfl rfl rfl (.bool (decide (a = b))) w42 rfl (r_move rfl) ?_
      refine EL_gite 90 rfl rfl rfl (.int .i64 m) rfl (fun g55 => r_move rfl) ?_
      refine EL_gite 90 rfl rfl rfl (.int .i64 n) rfl (fun g56 => r_move rfl) ?_
      refine EL_gite 90 rfl rfl rfl (.bool (decide (m = n))) rfl (fun g57 => r_eql (cond_of g57 rfl) (cond_of g57 rfl)) ?_
      refine EL_gval 79 rfl rfl rfl rfl (.bool ((decide (a = b)) && (decide (m = n)))) w42 rfl (r_and rfl rfl rfl) ?_
      refine EL_gval 79 rfl rfl rfl rfl (.bool true) w42 rfl (r_dec (show ((decide ((keyFor ([] : List Thing) a uMember m) = (keyFor (onceL (derT a uMember m) ([] : List Thing)) b uMember n))) == ((decide (a = b)) && (decide (m = n)))) = true from uses_eq hmi hni) (r_eqlb rfl rfl Try.underlying4)) ?_
      refine EL_gval 79 rfl rfl rfl rfl (.bool true) w42 rfl (r_move rfl) ?_
      refine EL_gval 96 rfl rfl rfl rfl v24 w42 rfl (r_move rfl) ?_
      refine EL_gval 96 rfl rfl rfl rfl (.string (str (keyFor ([] : List Thing) a uMember m))) w42 rfl (r_str rfl (own_row (S49.own 3 rfl)) Try.underlying23 Try.underlying5 Try.underlying9) ?_
      refine EL_gval 96 rfl rfl rfl rfl v44 w42 rfl (r_move rfl) ?_
      refine EL_gval 96 rfl rfl rfl rfl (.string (str (keyFor (onceL (derT b uMember n) (onceL (derT a uMember m) ([] : List Thing))) b uWriter n))) w42 rfl (r_str rfl (own_row (S49.own 0 rfl)) Try.underlying23 Try.underlying5 Try.underlying9) ?_
      refine EL_gval 96 rfl rfl rfl rfl (.bool true) w42 rfl (r_dec (show (decide ((keyFor ([] : List Thing) a uMember m) ≠ (keyFor (onceL (derT b uMember n) (onceL (derT a uMember m) ([] : List Thing))) b uWriter n))) = true from uses_ne1 hmi hni) (r_neqs rfl rfl)) ?_
      refine EL_gval 79 rfl rfl rfl rfl (.bool true) w42 rfl (r_pickT rfl rfl) ?_
      refine EL_gval 79 rfl rfl rfl rfl (.bool true) w42 rfl (r_move rfl) ?_
      refine EL_gval 103 rfl rfl rfl rfl v34 w42 rfl (r_move rfl) ?_
      refine EL_gval 103 rfl rfl rfl rfl (.string (str (keyFor (onceL (derT a uMember m) ([] : List Thing)) b uMember n))) w42 rfl (r_str rfl (own_row (S49.own 2 rfl)) Try.underlying23 Try.underlying5 Try.underlying9) ?_
      refine EL_gval 103 rfl rfl rfl rfl v44 w42 rfl (r_move rfl) ?_
      refine EL_gval 103 rfl rfl rfl rfl (.string (str (keyFor (onceL (derT b uMember n) (onceL (derT a uMember m) ([] : List Thing))) b uWriter n))) w42 rfl (r_str rfl (own_row (S49.own 0 rfl)) Try.underlying23 Try.underlying5 Try.underlying9) ?_
      refine EL_gval 103 rfl rfl rfl rfl (.bool true) w42 rfl (r_dec (show (decide ((keyFor (onceL (derT a uMember m) ([] : List Thing)) b uMember n) ≠ (keyFor (onceL (derT b uMember n) (onceL (derT a uMember m) ([] : List Thing))) b uWriter n))) = true from uses_ne2 hni) (r_neqs rfl rfl)) ?_
      refine EL_gval 79 rfl rfl rfl rfl (.bool true) w42 rfl (r_pickT rfl rfl) ?_
      refine EL_val (.bool true) w42 rfl (r_pickF rfl rfl) ?_
      refine EL_val (.bool true) w42 rfl (r_assign rfl) ?_
      refine EL_nil ?_
      refine thn_n ?_
      refine EC_ret ?_
      refine fin1 Try.results5 (show _ = .bool true from rfl) ⟨_, rfl, ?_⟩
      have S58 : Sat w42 I45 (Suite p21 (onceL (derT b uWriter n) (onceL (derT b uMember n) (onceL (derT a uMember m) ([] : List Thing)))) :: OwnB v34 (keyFor (onceL (derT a uMember m) ([] : List Thing)) b uMember n) :: OwnB v24 (keyFor ([] : List Thing) a uMember m) :: R) := S49.drop 0 rfl
      have S59 : Sat w42 I45 (OwnB v34 (keyFor (onceL (derT a uMember m) ([] : List Thing)) b uMember n) :: OwnB v24 (keyFor ([] : List Thing) a uMember m) :: R) := S58.drop 0 rfl
      have S60 : Sat w42 I45 (OwnB v24 (keyFor ([] : List Thing) a uMember m) :: R) := S59.drop 0 rfl
      have S61 : Sat w42 I45 (R) := S60.drop 0 rfl
      exact ⟨I45, (Gh.le_trans (Gh.le_trans (Gh.le_trans le14 le26) le36) le46), rfl, S61⟩
    · have hmi := rightW_iff.1 hm
      have hni : ¬ (1 ≤ n ∧ n ≤ 16) := fun h => by rw [rightW_iff.2 h] at hn; cases hn
      refine EC_reg ?_
      refine EL_val p21 w19 rfl (r_move rfl) ?_
      refine EL_val v0 w19 rfl (r_move rfl) ?_
      refine EL_val (.int .i64 m) w19 rfl (r_move rfl) ?_
      refine EL_ret _ rfl Try.func14 rfl nm14 rfl (Member_c p21 ([] : List Thing) v0 a m I13 _ _ S20 (Q0.up le14) (Nat.le_trans (Nat.le_refl _) (by first | decide | (simp; done) | omega | (simp; omega))) (by omega)) ?_
      rintro _ w62 ⟨v64, I65, le66, rfl, S63⟩
      have q68 : rightB ([] : List Thing) a uMember m = keyFor ([] : List Thing) a uMember m := by rw [rightB, if_pos hm]
      have S67 : Sat w62 I65 (OwnB v64 (keyFor ([] : List Thing) a uMember m) :: Suite p21 (rightL ([] : List Thing) a uMember m) :: R) := S63.as 0 rfl (congrArg (fun zz => OwnB v64 zz) q68)
      have q70 : rightL ([] : List Thing) a uMember m = onceL (derT a uMember m) ([] : List Thing) := by rw [rightL, if_pos hm]
      have S69 : Sat w62 I65 (OwnB v64 (keyFor ([] : List Thing) a uMember m) :: Suite p21 (onceL (derT a uMember m) ([] : List Thing)) :: R) := S67.as 1 rfl (congrArg (fun zz => Suite p21 zz) q70)
      refine EL_val (.tuple #[v64, .int .i64 (rightE m)]) w62 rfl (r_move rfl) ?_
      refine EL_val v64 w62 rfl (r_extract rfl rfl) ?_
      refine EL_val (.int .i64 (rightE m)) w62 rfl (r_extract rfl rfl) ?_
      refine EL_val v64 w62 rfl (r_assign rfl) ?_
      refine EL_val (.int .i64 (rightE m)) w62 rfl (r_assign rfl) ?_
      refine EL_nil ?_
      refine thn_n ?_
      refine EC_seq ?_
      refine EC_reg ?_
      refine EL_val p21 w62 rfl (r_move rfl) ?_
      refine EL_val v1 w62 rfl (r_move rfl) ?_
      refine EL_val (.int .i64 n) w62 rfl (r_move rfl) ?_
      have S71 : Sat w62 I65 (Suite p21 (onceL (derT a uMember m) ([] : List Thing)) :: OwnB v64 (keyFor ([] : List Thing) a uMember m) :: R) := S69.cons_front (i := 1) rfl
      refine EL_ret _ rfl Try.func14 rfl nm14 rfl (Member_c p21 (onceL (derT a uMember m) ([] : List Thing)) v1 b n I65 _ _ S71 (Q1.up (Gh.le_trans le14 le66)) (Nat.le_trans (Nat.le_trans (onceL_len _ _) (Nat.succ_le_succ (Nat.le_refl _))) (by first | decide | (simp; done) | omega | (simp; omega))) (by omega)) ?_
      rintro _ w72 ⟨v74, I75, le76, rfl, S73⟩
      have q78 : rightB (onceL (derT a uMember m) ([] : List Thing)) b uMember n = [] := by rw [rightB, if_neg (by rw [hn]; decide)]
      have S77 : Sat w72 I75 (OwnB v74 [] :: Suite p21 (rightL (onceL (derT a uMember m) ([] : List Thing)) b uMember n) :: OwnB v64 (keyFor ([] : List Thing) a uMember m) :: R) := S73.as 0 rfl (congrArg (fun zz => OwnB v74 zz) q78)
      have q80 : rightL (onceL (derT a uMember m) ([] : List Thing)) b uMember n = (onceL (derT a uMember m) ([] : List Thing)) := by rw [rightL, if_neg (by rw [hn]; decide)]
      have S79 : Sat w72 I75 (OwnB v74 [] :: Suite p21 (onceL (derT a uMember m) ([] : List Thing)) :: OwnB v64 (keyFor ([] : List Thing) a uMember m) :: R) := S77.as 1 rfl (congrArg (fun zz => Suite p21 zz) q80)
      refine EL_val (.tuple #[v74, .int .i64 (rightE n)]) w72 rfl (r_move rfl) ?_
      refine EL_val v74 w72 rfl (r_extract rfl rfl) ?_
      refine EL_val (.int .i64 (rightE n)) w72 rfl (r_extract rfl rfl) ?_
      refine EL_val v74 w72 rfl (r_assign rfl) ?_
      refine EL_val (.int .i64 (rightE n)) w72 rfl (r_assign rfl) ?_
      refine EL_nil ?_
      refine thn_n ?_
      refine EC_seq ?_
      refine EC_reg ?_
      refine EL_val p21 w72 rfl (r_move rfl) ?_
      refine EL_val v1 w72 rfl (r_move rfl) ?_
      refine EL_val (.int .i64 n) w72 rfl (r_move rfl) ?_
      have S81 : Sat w72 I75 (Suite p21 (onceL (derT a uMember m) ([] : List Thing)) :: OwnB v74 [] :: OwnB v64 (keyFor ([] : List Thing) a uMember m) :: R) := S79.cons_front (i := 1) rfl
      refine EL_ret _ rfl Try.func15 rfl nm15 rfl (Writer_c p21 (onceL (derT a uMember m) ([] : List Thing)) v1 b n I75 _ _ S81 (Q1.up (Gh.le_trans (Gh.le_trans le14 le66) le76)) (Nat.le_trans (Nat.le_trans (onceL_len _ _) (Nat.succ_le_succ (Nat.le_refl _))) (by first | decide | (simp; done) | omega | (simp; omega))) (by omega)) ?_
      rintro _ w82 ⟨v84, I85, le86, rfl, S83⟩
      have q88 : rightB (onceL (derT a uMember m) ([] : List Thing)) b uWriter n = [] := by rw [rightB, if_neg (by rw [hn]; decide)]
      have S87 : Sat w82 I85 (OwnB v84 [] :: Suite p21 (rightL (onceL (derT a uMember m) ([] : List Thing)) b uWriter n) :: OwnB v74 [] :: OwnB v64 (keyFor ([] : List Thing) a uMember m) :: R) := S83.as 0 rfl (congrArg (fun zz => OwnB v84 zz) q88)
      have q90 : rightL (onceL (derT a uMember m) ([] : List Thing)) b uWriter n = (onceL (derT a uMember m) ([] : List Thing)) := by rw [rightL, if_neg (by rw [hn]; decide)]
      have S89 : Sat w82 I85 (OwnB v84 [] :: Suite p21 (onceL (derT a uMember m) ([] : List Thing)) :: OwnB v74 [] :: OwnB v64 (keyFor ([] : List Thing) a uMember m) :: R) := S87.as 1 rfl (congrArg (fun zz => Suite p21 zz) q90)
      refine EL_val (.tuple #[v84, .int .i64 (rightE n)]) w82 rfl (r_move rfl) ?_
      refine EL_val v84 w82 rfl (r_extract rfl rfl) ?_
      refine EL_val (.int .i64 (rightE n)) w82 rfl (r_extract rfl rfl) ?_
      refine EL_val v84 w82 rfl (r_assign rfl) ?_
      refine EL_val (.int .i64 (rightE n)) w82 rfl (r_assign rfl) ?_
      refine EL_nil ?_
      refine thn_n ?_
      refine EC_seq ?_
      refine EC_seq ?_
      refine EC_reg ?_
      refine EL_val (.int .i64 (rightE m)) w82 rfl (r_move rfl) ?_
      refine EL_val (.bool true) w82 rfl (r_dec (show (decide ((rightE m) = 0)) = true from by rw [rightE, hm]; rfl) (r_eql rfl rfl)) ?_
      refine EL_val (.int .i64 m) w82 rfl (r_move rfl) ?_
      refine EL_val (.bool (decide (1 ≤ m))) w82 rfl (r_geq rfl rfl) ?_
      refine EL_val (.bool (decide (1 ≤ m))) w82 rfl (r_move rfl) ?_
      refine EL_gite 52 rfl rfl rfl (.int .i64 m) rfl (fun g91 => r_move rfl) ?_
      refine EL_gite 52 rfl rfl rfl (.bool (decide (m ≤ 16))) rfl (fun g92 => r_leq (cond_of g92 rfl) rfl) ?_
      refine EL_val (.bool ((decide (1 ≤ m)) && (decide (m ≤ 16)))) w82 rfl (r_and rfl rfl rfl) ?_
      refine EL_val (.bool false) w82 rfl (r_dec (show (true != ((decide (1 ≤ m)) && (decide (m ≤ 16)))) = false from by first | rfl | (simp; omega)) (r_neqb rfl rfl Try.underlying4)) ?_
      refine EL_val (.bool false) w82 rfl (r_move rfl) ?_
      refine EL_gval 57 rfl rfl rfl rfl (.int .i64 (rightE n)) w82 rfl (r_move rfl) ?_
      refine EL_gval 57 rfl rfl rfl rfl (.int .i64 (rightE n)) w82 rfl (r_move rfl) ?_
      refine EL_gval 57 rfl rfl rfl rfl (.bool false) w82 rfl (r_dec (show (decide ((rightE n) ≠ (rightE n))) = false from by simp) (r_neq rfl rfl)) ?_
      refine EL_val (.bool false) w82 rfl (r_pickF rfl rfl) ?_
      refine EL_val (.bool false) w82 rfl (r_move rfl) ?_
      refine EL_gval 62 rfl rfl rfl rfl (.int .i64 (rightE n)) w82 rfl (r_move rfl) ?_
      refine EL_gval 62 rfl rfl rfl rfl (.bool false) w82 rfl (r_dec (show (decide ((rightE n) = 0)) = false from by rw [rightE, hn]; rfl) (r_eql rfl rfl)) ?_
      refine EL_gval 62 rfl rfl rfl rfl (.int .i64 n) w82 rfl (r_move rfl) ?_
      refine EL_gval 62 rfl rfl rfl rfl (.bool (decide (1 ≤ n))) w82 rfl (r_geq rfl rfl) ?_
      refine EL_gval 62 rfl rfl rfl rfl (.bool (decide (1 ≤ n))) w82 rfl (r_move rfl) ?_
      refine EL_gite 67 rfl rfl rfl (.int .i64 n) rfl (fun g93 => r_move rfl) ?_
      refine EL_gite 67 rfl rfl rfl (.bool (decide (n ≤ 16))) rfl (fun g94 => r_leq (cond_of g94 rfl) rfl) ?_
      refine EL_gval 62 rfl rfl rfl rfl (.bool ((decide (1 ≤ n)) && (decide (n ≤ 16)))) w82 rfl (r_and rfl rfl rfl) ?_
      refine EL_gval 62 rfl rfl rfl rfl (.bool false) w82 rfl (r_dec (show (false != ((decide (1 ≤ n)) && (decide (n ≤ 16)))) = false from by first | rfl | (simp; omega)) (r_neqb rfl rfl Try.underlying4)) ?_
      refine EL_val (.bool false) w82 rfl (r_pickF rfl rfl) ?_
      refine EL_nil ?_
      refine thn_n ?_
      refine EC_cond_false rfl ?_
      refine EC_skip ?_
      refine thn_n ?_
      refine EC_seq ?_
      refine EC_reg ?_
      refine EL_val (.int .i64 (rightE m)) w82 rfl (r_move rfl) ?_
      refine EL_val (.bool false) w82 rfl (r_dec (show (decide ((rightE m) ≠ 0)) = false from by rw [rightE, hm]; rfl) (r_neq rfl rfl)) ?_
      refine EL_val (.bool false) w82 rfl (r_move rfl) ?_
      refine EL_gval 75 rfl rfl rfl rfl (.int .i64 (rightE n)) w82 rfl (r_move rfl) ?_
      refine EL_gval 75 rfl rfl rfl rfl (.bool true) w82 rfl (r_dec (show (decide ((rightE n) ≠ 0)) = true from by rw [rightE, hn]; rfl) (r_neq rfl rfl)) ?_
      refine EL_val (.bool true) w82 rfl (r_pickF rfl rfl) ?_
      refine EL_val (.bool true) w82 rfl (r_move rfl) ?_
      refine EL_pass 79 rfl rfl rfl rfl rfl ?_
      refine EL_pass 79 rfl rfl rfl rfl rfl ?_
      refine EL_pass 79 rfl rfl rfl rfl rfl ?_
      refine EL_pass 79 rfl rfl rfl rfl rfl ?_
      refine EL_pass 79 rfl rfl rfl rfl rfl ?_
      refine EL_pass 79 rfl rfl rfl rfl rfl ?_
      refine EL_pass 79 rfl rfl rfl rfl rfl ?_
      refine EL_pass 79 rfl rfl rfl rfl rfl ?_
      refine EL_pass 79 rfl rfl rfl rfl rfl ?_
      refine EL_pass 79 rfl rfl rfl rfl rfl ?_
      refine EL_pass 79 rfl rfl rfl rfl rfl ?_
      refine EL_passU 90 rfl rfl rfl rfl ?_
      refine EL_passU 90 rfl rfl rfl rfl ?_
      refine EL_passU 90 rfl rfl rfl rfl ?_
      refine EL_pass 79 rfl rfl rfl rfl rfl ?_
      refine EL_pass 79 rfl rfl rfl rfl rfl ?_
      refine EL_pass 79 rfl rfl rfl rfl rfl ?_
      refine EL_passU 96 rfl rfl rfl rfl ?_
      refine EL_passU 96 rfl rfl rfl rfl ?_
      refine EL_passU 96 rfl rfl rfl rfl ?_
      refine EL_passU 96 rfl rfl rfl rfl ?_
      refine EL_passU 96 rfl rfl rfl rfl ?_
      refine EL_pass 79 rfl rfl rfl rfl rfl ?_
      refine EL_pass 79 rfl rfl rfl rfl rfl ?_
      refine EL_passU 103 rfl rfl rfl rfl ?_
      refine EL_passU 103 rfl rfl rfl rfl ?_
      refine EL_passU 103 rfl rfl rfl rfl ?_
      refine EL_passU 103 rfl rfl rfl rfl ?_
      refine EL_passU 103 rfl rfl rfl rfl ?_
      refine EL_pass 79 rfl rfl rfl rfl rfl ?_
      refine EL_val (.bool true) w82 rfl (r_pickT rfl rfl) ?_
      refine EL_val (.bool true) w82 rfl (r_assign rfl) ?_
      refine EL_nil ?_
      refine thn_n ?_
      refine EC_ret ?_
      refine fin1 Try.results5 (show _ = .bool true from rfl) ⟨_, rfl, ?_⟩
      have S95 : Sat w82 I85 (Suite p21 (onceL (derT a uMember m) ([] : List Thing)) :: OwnB v74 [] :: OwnB v64 (keyFor ([] : List Thing) a uMember m) :: R) := S89.drop 0 rfl
      have S96 : Sat w82 I85 (OwnB v74 [] :: OwnB v64 (keyFor ([] : List Thing) a uMember m) :: R) := S95.drop 0 rfl
      have S97 : Sat w82 I85 (OwnB v64 (keyFor ([] : List Thing) a uMember m) :: R) := S96.drop 0 rfl
      have S98 : Sat w82 I85 (R) := S97.drop 0 rfl
      exact ⟨I85, (Gh.le_trans (Gh.le_trans (Gh.le_trans le14 le66) le76) le86), rfl, S98⟩
    · have hmi : ¬ (1 ≤ m ∧ m ≤ 16) := fun h => by rw [rightW_iff.2 h] at hm; cases hm
      have hni := rightW_iff.1 hn
      refine EC_reg ?_
      refine EL_val p21 w19 rfl (r_move rfl) ?_
      refine EL_val v0 w19 rfl (r_move rfl) ?_
      refine EL_val (.int .i64 m) w19 rfl (r_move rfl) ?_
      refine EL_ret _ rfl Try.func14 rfl nm14 rfl (Member_c p21 ([] : List Thing) v0 a m I13 _ _ S20 (Q0.up le14) (Nat.le_trans (Nat.le_refl _) (by first | decide | (simp; done) | omega | (simp; omega))) (by omega)) ?_
      rintro _ w99 ⟨v101, I102, le103, rfl, S100⟩
      have q105 : rightB ([] : List Thing) a uMember m = [] := by rw [rightB, if_neg (by rw [hm]; decide)]
      have S104 : Sat w99 I102 (OwnB v101 [] :: Suite p21 (rightL ([] : List Thing) a uMember m) :: R) := S100.as 0 rfl (congrArg (fun zz => OwnB v101 zz) q105)
      have q107 : rightL ([] : List Thing) a uMember m = ([] : List Thing) := by rw [rightL, if_neg (by rw [hm]; decide)]
      have S106 : Sat w99 I102 (OwnB v101 [] :: Suite p21 ([] : List Thing) :: R) := S104.as 1 rfl (congrArg (fun zz => Suite p21 zz) q107)
      refine EL_val (.tuple #[v101, .int .i64 (rightE m)]) w99 rfl (r_move rfl) ?_
      refine EL_val v101 w99 rfl (r_extract rfl rfl) ?_
      refine EL_val (.int .i64 (rightE m)) w99 rfl (r_extract rfl rfl) ?_
      refine EL_val v101 w99 rfl (r_assign rfl) ?_
      refine EL_val (.int .i64 (rightE m)) w99 rfl (r_assign rfl) ?_
      refine EL_nil ?_
      refine thn_n ?_
      refine EC_seq ?_
      refine EC_reg ?_
      refine EL_val p21 w99 rfl (r_move rfl) ?_
      refine EL_val v1 w99 rfl (r_move rfl) ?_
      refine EL_val (.int .i64 n) w99 rfl (r_move rfl) ?_
      have S108 : Sat w99 I102 (Suite p21 ([] : List Thing) :: OwnB v101 [] :: R) := S106.cons_front (i := 1) rfl
      refine EL_ret _ rfl Try.func14 rfl nm14 rfl (Member_c p21 ([] : List Thing) v1 b n I102 _ _ S108 (Q1.up (Gh.le_trans le14 le103)) (Nat.le_trans (Nat.le_refl _) (by first | decide | (simp; done) | omega | (simp; omega))) (by omega)) ?_
      rintro _ w109 ⟨v111, I112, le113, rfl, S110⟩
      have q115 : rightB ([] : List Thing) b uMember n = keyFor ([] : List Thing) b uMember n := by rw [rightB, if_pos hn]
      have S114 : Sat w109 I112 (OwnB v111 (keyFor ([] : List Thing) b uMember n) :: Suite p21 (rightL ([] : List Thing) b uMember n) :: OwnB v101 [] :: R) := S110.as 0 rfl (congrArg (fun zz => OwnB v111 zz) q115)
      have q117 : rightL ([] : List Thing) b uMember n = onceL (derT b uMember n) ([] : List Thing) := by rw [rightL, if_pos hn]
      have S116 : Sat w109 I112 (OwnB v111 (keyFor ([] : List Thing) b uMember n) :: Suite p21 (onceL (derT b uMember n) ([] : List Thing)) :: OwnB v101 [] :: R) := S114.as 1 rfl (congrArg (fun zz => Suite p21 zz) q117)
      refine EL_val (.tuple #[v111, .int .i64 (rightE n)]) w109 rfl (r_move rfl) ?_
      refine EL_val v111 w109 rfl (r_extract rfl rfl) ?_
      refine EL_val (.int .i64 (rightE n)) w109 rfl (r_extract rfl rfl) ?_
      refine EL_val v111 w109 rfl (r_assign rfl) ?_
      refine EL_val (.int .i64 (rightE n)) w109 rfl (r_assign rfl) ?_
      refine EL_nil ?_
      refine thn_n ?_
      refine EC_seq ?_
      refine EC_reg ?_
      refine EL_val p21 w109 rfl (r_move rfl) ?_
      refine EL_val v1 w109 rfl (r_move rfl) ?_
      refine EL_val (.int .i64 n) w109 rfl (r_move rfl) ?_
      have S118 : Sat w109 I112 (Suite p21 (onceL (derT b uMember n) ([] : List Thing)) :: OwnB v111 (keyFor ([] : List Thing) b uMember n) :: OwnB v101 [] :: R) := S116.cons_front (i := 1) rfl
      refine EL_ret _ rfl Try.func15 rfl nm15 rfl (Writer_c p21 (onceL (derT b uMember n) ([] : List Thing)) v1 b n I112 _ _ S118 (Q1.up (Gh.le_trans (Gh.le_trans le14 le103) le113)) (Nat.le_trans (Nat.le_trans (onceL_len _ _) (Nat.succ_le_succ (Nat.le_refl _))) (by first | decide | (simp; done) | omega | (simp; omega))) (by omega)) ?_
      rintro _ w119 ⟨v121, I122, le123, rfl, S120⟩
      have q125 : rightB (onceL (derT b uMember n) ([] : List Thing)) b uWriter n = keyFor (onceL (derT b uMember n) ([] : List Thing)) b uWriter n := by rw [rightB, if_pos hn]
      have S124 : Sat w119 I122 (OwnB v121 (keyFor (onceL (derT b uMember n) ([] : List Thing)) b uWriter n) :: Suite p21 (rightL (onceL (derT b uMember n) ([] : List Thing)) b uWriter n) :: OwnB v111 (keyFor ([] : List Thing) b uMember n) :: OwnB v101 [] :: R) := S120.as 0 rfl (congrArg (fun zz => OwnB v121 zz) q125)
      have q127 : rightL (onceL (derT b uMember n) ([] : List Thing)) b uWriter n = onceL (derT b uWriter n) (onceL (derT b uMember n) ([] : List Thing)) := by rw [rightL, if_pos hn]
      have S126 : Sat w119 I122 (OwnB v121 (keyFor (onceL (derT b uMember n) ([] : List Thing)) b uWriter n) :: Suite p21 (onceL (derT b uWriter n) (onceL (derT b uMember n) ([] : List Thing))) :: OwnB v111 (keyFor ([] : List Thing) b uMember n) :: OwnB v101 [] :: R) := S124.as 1 rfl (congrArg (fun zz => Suite p21 zz) q127)
      refine EL_val (.tuple #[v121, .int .i64 (rightE n)]) w119 rfl (r_move rfl) ?_
      refine EL_val v121 w119 rfl (r_extract rfl rfl) ?_
      refine EL_val (.int .i64 (rightE n)) w119 rfl (r_extract rfl rfl) ?_
      refine EL_val v121 w119 rfl (r_assign rfl) ?_
      refine EL_val (.int .i64 (rightE n)) w119 rfl (r_assign rfl) ?_
      refine EL_nil ?_
      refine thn_n ?_
      refine EC_seq ?_
      refine EC_seq ?_
      refine EC_reg ?_
      refine EL_val (.int .i64 (rightE m)) w119 rfl (r_move rfl) ?_
      refine EL_val (.bool false) w119 rfl (r_dec (show (decide ((rightE m) = 0)) = false from by rw [rightE, hm]; rfl) (r_eql rfl rfl)) ?_
      refine EL_val (.int .i64 m) w119 rfl (r_move rfl) ?_
      refine EL_val (.bool (decide (1 ≤ m))) w119 rfl (r_geq rfl rfl) ?_
      refine EL_val (.bool (decide (1 ≤ m))) w119 rfl (r_move rfl) ?_
      refine EL_gite 52 rfl rfl rfl (.int .i64 m) rfl (fun g128 => r_move rfl) ?_
      refine EL_gite 52 rfl rfl rfl (.bool (decide (m ≤ 16))) rfl (fun g129 => r_leq (cond_of g129 rfl) rfl) ?_
      refine EL_val (.bool ((decide (1 ≤ m)) && (decide (m ≤ 16)))) w119 rfl (r_and rfl rfl rfl) ?_
      refine EL_val (.bool false) w119 rfl (r_dec (show (false != ((decide (1 ≤ m)) && (decide (m ≤ 16)))) = false from by first | rfl | (simp; omega)) (r_neqb rfl rfl Try.underlying4)) ?_
      refine EL_val (.bool false) w119 rfl (r_move rfl) ?_
      refine EL_gval 57 rfl rfl rfl rfl (.int .i64 (rightE n)) w119 rfl (r_move rfl) ?_
      refine EL_gval 57 rfl rfl rfl rfl (.int .i64 (rightE n)) w119 rfl (r_move rfl) ?_
      refine EL_gval 57 rfl rfl rfl rfl (.bool false) w119 rfl (r_dec (show (decide ((rightE n) ≠ (rightE n))) = false from by simp) (r_neq rfl rfl)) ?_
      refine EL_val (.bool false) w119 rfl (r_pickF rfl rfl) ?_
      refine EL_val (.bool false) w119 rfl (r_move rfl) ?_
      refine EL_gval 62 rfl rfl rfl rfl (.int .i64 (rightE n)) w119 rfl (r_move rfl) ?_
      refine EL_gval 62 rfl rfl rfl rfl (.bool true) w119 rfl (r_dec (show (decide ((rightE n) = 0)) = true from by rw [rightE, hn]; rfl) (r_eql rfl rfl)) ?_
      refine EL_gval 62 rfl rfl rfl rfl (.int .i64 n) w119 rfl (r_move rfl) ?_
      refine EL_gval 62 rfl rfl rfl rfl (.bool (decide (1 ≤ n))) w119 rfl (r_geq rfl rfl) ?_
      refine EL_gval 62 rfl rfl rfl rfl (.bool (decide (1 ≤ n))) w119 rfl (r_move rfl) ?_
      refine EL_gite 67 rfl rfl rfl (.int .i64 n) rfl (fun g130 => r_move rfl) ?_
      refine EL_gite 67 rfl rfl rfl (.bool (decide (n ≤ 16))) rfl (fun g131 => r_leq (cond_of g131 rfl) rfl) ?_
      refine EL_gval 62 rfl rfl rfl rfl (.bool ((decide (1 ≤ n)) && (decide (n ≤ 16)))) w119 rfl (r_and rfl rfl rfl) ?_
      refine EL_gval 62 rfl rfl rfl rfl (.bool false) w119 rfl (r_dec (show (true != ((decide (1 ≤ n)) && (decide (n ≤ 16)))) = false from by first | rfl | (simp; omega)) (r_neqb rfl rfl Try.underlying4)) ?_
      refine EL_val (.bool false) w119 rfl (r_pickF rfl rfl) ?_
      refine EL_nil ?_
      refine thn_n ?_
      refine EC_cond_false rfl ?_
      refine EC_skip ?_
      refine thn_n ?_
      refine EC_seq ?_
      refine EC_reg ?_
      refine EL_val (.int .i64 (rightE m)) w119 rfl (r_move rfl) ?_
      refine EL_val (.bool true) w119 rfl (r_dec (show (decide ((rightE m) ≠ 0)) = true from by rw [rightE, hm]; rfl) (r_neq rfl rfl)) ?_
      refine EL_val (.bool true) w119 rfl (r_move rfl) ?_
      refine EL_pass 75 rfl rfl rfl rfl rfl ?_
      refine EL_pass 75 rfl rfl rfl rfl rfl ?_
      refine EL_val (.bool true) w119 rfl (r_pickT rfl rfl) ?_
      refine EL_val (.bool true) w119 rfl (r_move rfl) ?_
      refine EL_pass 79 rfl rfl rfl rfl rfl ?_
      refine EL_pass 79 rfl rfl rfl rfl rfl ?_
      refine EL_pass 79 rfl rfl rfl rfl rfl ?_
      refine EL_pass 79 rfl rfl rfl rfl rfl ?_
      refine EL_pass 79 rfl rfl rfl rfl rfl ?_
      refine EL_pass 79 rfl rfl rfl rfl rfl ?_
      refine EL_pass 79 rfl rfl rfl rfl rfl ?_
      refine EL_pass 79 rfl rfl rfl rfl rfl ?_
      refine EL_pass 79 rfl rfl rfl rfl rfl ?_
      refine EL_pass 79 rfl rfl rfl rfl rfl ?_
      refine EL_pass 79 rfl rfl rfl rfl rfl ?_
      refine EL_passU 90 rfl rfl rfl rfl ?_
      refine EL_passU 90 rfl rfl rfl rfl ?_
      refine EL_passU 90 rfl rfl rfl rfl ?_
      refine EL_pass 79 rfl rfl rfl rfl rfl ?_
      refine EL_pass 79 rfl rfl rfl rfl rfl ?_
      refine EL_pass 79 rfl rfl rfl rfl rfl ?_
      refine EL_passU 96 rfl rfl rfl rfl ?_
      refine EL_passU 96 rfl rfl rfl rfl ?_
      refine EL_passU 96 rfl rfl rfl rfl ?_
      refine EL_passU 96 rfl rfl rfl rfl ?_
      refine EL_passU 96 rfl rfl rfl rfl ?_
      refine EL_pass 79 rfl rfl rfl rfl rfl ?_
      refine EL_pass 79 rfl rfl rfl rfl rfl ?_
      refine EL_passU 103 rfl rfl rfl rfl ?_
      refine EL_passU 103 rfl rfl rfl rfl ?_
      refine EL_passU 103 rfl rfl rfl rfl ?_
      refine EL_passU 103 rfl rfl rfl rfl ?_
      refine EL_passU 103 rfl rfl rfl rfl ?_
      refine EL_pass 79 rfl rfl rfl rfl rfl ?_
      refine EL_val (.bool true) w119 rfl (r_pickT rfl rfl) ?_
      refine EL_val (.bool true) w119 rfl (r_assign rfl) ?_
      refine EL_nil ?_
      refine thn_n ?_
      refine EC_ret ?_
      refine fin1 Try.results5 (show _ = .bool true from rfl) ⟨_, rfl, ?_⟩
      have S132 : Sat w119 I122 (Suite p21 (onceL (derT b uWriter n) (onceL (derT b uMember n) ([] : List Thing))) :: OwnB v111 (keyFor ([] : List Thing) b uMember n) :: OwnB v101 [] :: R) := S126.drop 0 rfl
      have S133 : Sat w119 I122 (OwnB v111 (keyFor ([] : List Thing) b uMember n) :: OwnB v101 [] :: R) := S132.drop 0 rfl
      have S134 : Sat w119 I122 (OwnB v101 [] :: R) := S133.drop 0 rfl
      have S135 : Sat w119 I122 (R) := S134.drop 0 rfl
      exact ⟨I122, (Gh.le_trans (Gh.le_trans (Gh.le_trans le14 le103) le113) le123), rfl, S135⟩
    · have hmi : ¬ (1 ≤ m ∧ m ≤ 16) := fun h => by rw [rightW_iff.2 h] at hm; cases hm
      have hni : ¬ (1 ≤ n ∧ n ≤ 16) := fun h => by rw [rightW_iff.2 h] at hn; cases hn
      refine EC_reg ?_
      refine EL_val p21 w19 rfl (r_move rfl) ?_
      refine EL_val v0 w19 rfl (r_move rfl) ?_
      refine EL_val (.int .i64 m) w19 rfl (r_move rfl) ?_
      refine EL_ret _ rfl Try.func14 rfl nm14 rfl (Member_c p21 ([] : List Thing) v0 a m I13 _ _ S20 (Q0.up le14) (Nat.le_trans (Nat.le_refl _) (by first | decide | (simp; done) | omega | (simp; omega))) (by omega)) ?_
      rintro _ w136 ⟨v138, I139, le140, rfl, S137⟩
      have q142 : rightB ([] : List Thing) a uMember m = [] := by rw [rightB, if_neg (by rw [hm]; decide)]
      have S141 : Sat w136 I139 (OwnB v138 [] :: Suite p21 (rightL ([] : List Thing) a uMember m) :: R) := S137.as 0 rfl (congrArg (fun zz => OwnB v138 zz) q142)
      have q144 : rightL ([] : List Thing) a uMember m = ([] : List Thing) := by rw [rightL, if_neg (by rw [hm]; decide)]
      have S143 : Sat w136 I139 (OwnB v138 [] :: Suite p21 ([] : List Thing) :: R) := S141.as 1 rfl (congrArg (fun zz => Suite p21 zz) q144)
      refine EL_val (.tuple #[v138, .int .i64 (rightE m)]) w136 rfl (r_move rfl) ?_
      refine EL_val v138 w136 rfl (r_extract rfl rfl) ?_
      refine EL_val (.int .i64 (rightE m)) w136 rfl (r_extract rfl rfl) ?_
      refine EL_val v138 w136 rfl (r_assign rfl) ?_
      refine EL_val (.int .i64 (rightE m)) w136 rfl (r_assign rfl) ?_
      refine EL_nil ?_
      refine thn_n ?_
      refine EC_seq ?_
      refine EC_reg ?_
      refine EL_val p21 w136 rfl (r_move rfl) ?_
      refine EL_val v1 w136 rfl (r_move rfl) ?_
      refine EL_val (.int .i64 n) w136 rfl (r_move rfl) ?_
      have S145 : Sat w136 I139 (Suite p21 ([] : List Thing) :: OwnB v138 [] :: R) := S143.cons_front (i := 1) rfl
      refine EL_ret _ rfl Try.func14 rfl nm14 rfl (Member_c p21 ([] : List Thing) v1 b n I139 _ _ S145 (Q1.up (Gh.le_trans le14 le140)) (Nat.le_trans (Nat.le_refl _) (by first | decide | (simp; done) | omega | (simp; omega))) (by omega)) ?_
      rintro _ w146 ⟨v148, I149, le150, rfl, S147⟩
      have q152 : rightB ([] : List Thing) b uMember n = [] := by rw [rightB, if_neg (by rw [hn]; decide)]
      have S151 : Sat w146 I149 (OwnB v148 [] :: Suite p21 (rightL ([] : List Thing) b uMember n) :: OwnB v138 [] :: R) := S147.as 0 rfl (congrArg (fun zz => OwnB v148 zz) q152)
      have q154 : rightL ([] : List Thing) b uMember n = ([] : List Thing) := by rw [rightL, if_neg (by rw [hn]; decide)]
      have S153 : Sat w146 I149 (OwnB v148 [] :: Suite p21 ([] : List Thing) :: OwnB v138 [] :: R) := S151.as 1 rfl (congrArg (fun zz => Suite p21 zz) q154)
      refine EL_val (.tuple #[v148, .int .i64 (rightE n)]) w146 rfl (r_move rfl) ?_
      refine EL_val v148 w146 rfl (r_extract rfl rfl) ?_
      refine EL_val (.int .i64 (rightE n)) w146 rfl (r_extract rfl rfl) ?_
      refine EL_val v148 w146 rfl (r_assign rfl) ?_
      refine EL_val (.int .i64 (rightE n)) w146 rfl (r_assign rfl) ?_
      refine EL_nil ?_
      refine thn_n ?_
      refine EC_seq ?_
      refine EC_reg ?_
      refine EL_val p21 w146 rfl (r_move rfl) ?_
      refine EL_val v1 w146 rfl (r_move rfl) ?_
      refine EL_val (.int .i64 n) w146 rfl (r_move rfl) ?_
      have S155 : Sat w146 I149 (Suite p21 ([] : List Thing) :: OwnB v148 [] :: OwnB v138 [] :: R) := S153.cons_front (i := 1) rfl
      refine EL_ret _ rfl Try.func15 rfl nm15 rfl (Writer_c p21 ([] : List Thing) v1 b n I149 _ _ S155 (Q1.up (Gh.le_trans (Gh.le_trans le14 le140) le150)) (Nat.le_trans (Nat.le_refl _) (by first | decide | (simp; done) | omega | (simp; omega))) (by omega)) ?_
      rintro _ w156 ⟨v158, I159, le160, rfl, S157⟩
      have q162 : rightB ([] : List Thing) b uWriter n = [] := by rw [rightB, if_neg (by rw [hn]; decide)]
      have S161 : Sat w156 I159 (OwnB v158 [] :: Suite p21 (rightL ([] : List Thing) b uWriter n) :: OwnB v148 [] :: OwnB v138 [] :: R) := S157.as 0 rfl (congrArg (fun zz => OwnB v158 zz) q162)
      have q164 : rightL ([] : List Thing) b uWriter n = ([] : List Thing) := by rw [rightL, if_neg (by rw [hn]; decide)]
      have S163 : Sat w156 I159 (OwnB v158 [] :: Suite p21 ([] : List Thing) :: OwnB v148 [] :: OwnB v138 [] :: R) := S161.as 1 rfl (congrArg (fun zz => Suite p21 zz) q164)
      refine EL_val (.tuple #[v158, .int .i64 (rightE n)]) w156 rfl (r_move rfl) ?_
      refine EL_val v158 w156 rfl (r_extract rfl rfl) ?_
      refine EL_val (.int .i64 (rightE n)) w156 rfl (r_extract rfl rfl) ?_
      refine EL_val v158 w156 rfl (r_assign rfl) ?_
      refine EL_val (.int .i64 (rightE n)) w156 rfl (r_assign rfl) ?_
      refine EL_nil ?_
      refine thn_n ?_
      refine EC_seq ?_
      refine EC_seq ?_
      refine EC_reg ?_
      refine EL_val (.int .i64 (rightE m)) w156 rfl (r_move rfl) ?_
      refine EL_val (.bool false) w156 rfl (r_dec (show (decide ((rightE m) = 0)) = false from by rw [rightE, hm]; rfl) (r_eql rfl rfl)) ?_
      refine EL_val (.int .i64 m) w156 rfl (r_move rfl) ?_
      refine EL_val (.bool (decide (1 ≤ m))) w156 rfl (r_geq rfl rfl) ?_
      refine EL_val (.bool (decide (1 ≤ m))) w156 rfl (r_move rfl) ?_
      refine EL_gite 52 rfl rfl rfl (.int .i64 m) rfl (fun g165 => r_move rfl) ?_
      refine EL_gite 52 rfl rfl rfl (.bool (decide (m ≤ 16))) rfl (fun g166 => r_leq (cond_of g166 rfl) rfl) ?_
      refine EL_val (.bool ((decide (1 ≤ m)) && (decide (m ≤ 16)))) w156 rfl (r_and rfl rfl rfl) ?_
      refine EL_val (.bool false) w156 rfl (r_dec (show (false != ((decide (1 ≤ m)) && (decide (m ≤ 16)))) = false from by first | rfl | (simp; omega)) (r_neqb rfl rfl Try.underlying4)) ?_
      refine EL_val (.bool false) w156 rfl (r_move rfl) ?_
      refine EL_gval 57 rfl rfl rfl rfl (.int .i64 (rightE n)) w156 rfl (r_move rfl) ?_
      refine EL_gval 57 rfl rfl rfl rfl (.int .i64 (rightE n)) w156 rfl (r_move rfl) ?_
      refine EL_gval 57 rfl rfl rfl rfl (.bool false) w156 rfl (r_dec (show (decide ((rightE n) ≠ (rightE n))) = false from by simp) (r_neq rfl rfl)) ?_
      refine EL_val (.bool false) w156 rfl (r_pickF rfl rfl) ?_
      refine EL_val (.bool false) w156 rfl (r_move rfl) ?_
      refine EL_gval 62 rfl rfl rfl rfl (.int .i64 (rightE n)) w156 rfl (r_move rfl) ?_
      refine EL_gval 62 rfl rfl rfl rfl (.bool false) w156 rfl (r_dec (show (decide ((rightE n) = 0)) = false from by rw [rightE, hn]; rfl) (r_eql rfl rfl)) ?_
      refine EL_gval 62 rfl rfl rfl rfl (.int .i64 n) w156 rfl (r_move rfl) ?_
      refine EL_gval 62 rfl rfl rfl rfl (.bool (decide (1 ≤ n))) w156 rfl (r_geq rfl rfl) ?_
      refine EL_gval 62 rfl rfl rfl rfl (.bool (decide (1 ≤ n))) w156 rfl (r_move rfl) ?_
      refine EL_gite 67 rfl rfl rfl (.int .i64 n) rfl (fun g167 => r_move rfl) ?_
      refine EL_gite 67 rfl rfl rfl (.bool (decide (n ≤ 16))) rfl (fun g168 => r_leq (cond_of g168 rfl) rfl) ?_
      refine EL_gval 62 rfl rfl rfl rfl (.bool ((decide (1 ≤ n)) && (decide (n ≤ 16)))) w156 rfl (r_and rfl rfl rfl) ?_
      refine EL_gval 62 rfl rfl rfl rfl (.bool false) w156 rfl (r_dec (show (false != ((decide (1 ≤ n)) && (decide (n ≤ 16)))) = false from by first | rfl | (simp; omega)) (r_neqb rfl rfl Try.underlying4)) ?_
      refine EL_val (.bool false) w156 rfl (r_pickF rfl rfl) ?_
      refine EL_nil ?_
      refine thn_n ?_
      refine EC_cond_false rfl ?_
      refine EC_skip ?_
      refine thn_n ?_
      refine EC_seq ?_
      refine EC_reg ?_
      refine EL_val (.int .i64 (rightE m)) w156 rfl (r_move rfl) ?_
      refine EL_val (.bool true) w156 rfl (r_dec (show (decide ((rightE m) ≠ 0)) = true from by rw [rightE, hm]; rfl) (r_neq rfl rfl)) ?_
      refine EL_val (.bool true) w156 rfl (r_move rfl) ?_
      refine EL_pass 75 rfl rfl rfl rfl rfl ?_
      refine EL_pass 75 rfl rfl rfl rfl rfl ?_
      refine EL_val (.bool true) w156 rfl (r_pickT rfl rfl) ?_
      refine EL_val (.bool true) w156 rfl (r_move rfl) ?_
      refine EL_pass 79 rfl rfl rfl rfl rfl ?_
      refine EL_pass 79 rfl rfl rfl rfl rfl ?_
      refine EL_pass 79 rfl rfl rfl rfl rfl ?_
      refine EL_pass 79 rfl rfl rfl rfl rfl ?_
      refine EL_pass 79 rfl rfl rfl rfl rfl ?_
      refine EL_pass 79 rfl rfl rfl rfl rfl ?_
      refine EL_pass 79 rfl rfl rfl rfl rfl ?_
      refine EL_pass 79 rfl rfl rfl rfl rfl ?_
      refine EL_pass 79 rfl rfl rfl rfl rfl ?_
      refine EL_pass 79 rfl rfl rfl rfl rfl ?_
      refine EL_pass 79 rfl rfl rfl rfl rfl ?_
      refine EL_passU 90 rfl rfl rfl rfl ?_
      refine EL_passU 90 rfl rfl rfl rfl ?_
      refine EL_passU 90 rfl rfl rfl rfl ?_
      refine EL_pass 79 rfl rfl rfl rfl rfl ?_
      refine EL_pass 79 rfl rfl rfl rfl rfl ?_
      refine EL_pass 79 rfl rfl rfl rfl rfl ?_
      refine EL_passU 96 rfl rfl rfl rfl ?_
      refine EL_passU 96 rfl rfl rfl rfl ?_
      refine EL_passU 96 rfl rfl rfl rfl ?_
      refine EL_passU 96 rfl rfl rfl rfl ?_
      refine EL_passU 96 rfl rfl rfl rfl ?_
      refine EL_pass 79 rfl rfl rfl rfl rfl ?_
      refine EL_pass 79 rfl rfl rfl rfl rfl ?_
      refine EL_passU 103 rfl rfl rfl rfl ?_
      refine EL_passU 103 rfl rfl rfl rfl ?_
      refine EL_passU 103 rfl rfl rfl rfl ?_
      refine EL_passU 103 rfl rfl rfl rfl ?_
      refine EL_passU 103 rfl rfl rfl rfl ?_
      refine EL_pass 79 rfl rfl rfl rfl rfl ?_
      refine EL_val (.bool true) w156 rfl (r_pickT rfl rfl) ?_
      refine EL_val (.bool true) w156 rfl (r_assign rfl) ?_
      refine EL_nil ?_
      refine thn_n ?_
      refine EC_ret ?_
      refine fin1 Try.results5 (show _ = .bool true from rfl) ⟨_, rfl, ?_⟩
      have S169 : Sat w156 I159 (Suite p21 ([] : List Thing) :: OwnB v148 [] :: OwnB v138 [] :: R) := S163.drop 0 rfl
      have S170 : Sat w156 I159 (OwnB v148 [] :: OwnB v138 [] :: R) := S169.drop 0 rfl
      have S171 : Sat w156 I159 (OwnB v138 [] :: R) := S170.drop 0 rfl
      have S172 : Sat w156 I159 (R) := S171.drop 0 rfl
      exact ⟨I159, (Gh.le_trans (Gh.le_trans (Gh.le_trans le14 le140) le150) le160), rfl, S172⟩
theorem RingUses_c (v0 : Value) (a : List UInt8) (v1 : Value) (b : List UInt8) (m : Int) (n : Int) (w : World) (H0 : Bs w v0 a) (H1 : Bs w v1 b) (rm : -9223372036854775808 ≤ m ∧ m ≤ 9223372036854775807) (rn : -9223372036854775808 ≤ n ∧ n ≤ 9223372036854775807) : Ret Try.prog 5 [v0, v1, .int .i64 m, .int .i64 n] w fun v w' => v = .bool true ∧ Below w.heap.size w w' :=
  (RingUses_w v0 a v1 b m n (gh w) [] w (Sat.start w) (Row.ro H0) (Row.ro H1) rm rn).mono fun v w' h => by obtain ⟨J, le, e, S⟩ := h; exact ⟨e.symm, S.fin le⟩
theorem own : ownKnob Try.prog.godebug = none := by kernel_rfl
theorem laidOut : laidOutB Try.prog = true := by kernel_rfl
set_option maxRecDepth 100000 in
theorem lifted (os : Os) (started : os.Started) (H : Type) (enc : TypeId × Value → H) :
    ReturnsInHanded {} Try.checked os 5 .any (Rows.ringUsesSpec.pre6 enc Try.prog Try.f5 Rows.ringUsesRow.domain false) (Rows.ringUsesSpec.post enc Try.prog Try.f5 false true false false) := by
  refine returnsInHanded_of_change (C := Try.checked) own started (by kernel_rfl) Try.func5
    (ChangeSpec.witness6 (enc := enc) (C := Try.checked) false ⟨#[], #[.slice none 0 0, .slice none 0 0, .int .i64 0, .int .i64 0], []⟩ 8 (by kernel_rfl) (by kernel_rfl) (by kernel_rfl) (by kernel_rfl)) ?_
  intro W base args ds gs before hval0 hW hcnd _
  have hval : ∀ (j : Nat) t v, Try.f5.params[j]? = some t → args[j]? = some v → Value.okWide Try.prog W .any base t v := hval0
  have hW' := hW
  obtain ⟨p, q, hA0, hV, rfl, hfz, hnd⟩ := hW
  have hA : DataW.TrodAll enc Try.prog W 0 (fun _ => true) true Try.f5.params.toList args.toList ds p := hA0
  rw [Try.params5] at hA hval
  obtain ⟨v0, vs0, d0, ds0, p0, q0, hargs, rfl, rfl, h0, r0⟩ := trodAll_cons hA
  obtain ⟨v1, vs1, d1, ds1, p1, q1, rfl, rfl, rfl, h1, r1⟩ := trodAll_cons r0
  obtain ⟨v2, vs2, d2, ds2, p2, q2, rfl, rfl, rfl, h2, r2⟩ := trodAll_cons r1
  obtain ⟨v3, vs3, d3, ds3, p3, q3, rfl, rfl, rfl, h3, r3⟩ := trodAll_cons r2
  obtain ⟨rfl, rfl, rfl⟩ := trodAll_nil r3
  obtain rfl : args = #[v0, v1, v2, v3] := by cases args; simp_all
  obtain ⟨rfl, rfl⟩ := trodVars_none hV
  have k0 := h0
  have lt0 : ∀ x ∈ p0, x.block < W.heap.size := by obtain ⟨m, hm⟩ := k0; exact DataW.trod_lt m _ _ _ hm
  obtain ⟨a0, len0, cap0, rfl⟩ := okWide_slice Try.underlying23 (hval 0 23 v0 rfl rfl)
  obtain ⟨b0, H0⟩ : ∃ l, Bs W (.slice a0 len0 cap0) l := by
    obtain ⟨fuel, hf⟩ := h0
    rcases open_ints Try.underlying23 Try.underlying5 (by kernel_rfl) hf with ⟨hcs, _⟩ | ⟨x, l, c, zs, hcs, _, hl, hm, hz, _, hcell, hwz⟩
    · simp [Value.cells] at hcs
      obtain ⟨rfl, rfl, rfl⟩ := hcs
      exact ⟨[], Row.nil W⟩
    · simp [Value.cells] at hcs
      obtain ⟨rfl, rfl, rfl⟩ := hcs
      exact bs_open hl hm (by simpa using hz) hcell hwz
  have k1 := h1
  have lt1 : ∀ x ∈ p1, x.block < W.heap.size := by obtain ⟨m, hm⟩ := k1; exact DataW.trod_lt m _ _ _ hm
  obtain ⟨a1, len1, cap1, rfl⟩ := okWide_slice Try.underlying23 (hval 1 23 v1 rfl rfl)
  obtain ⟨b1, H1⟩ : ∃ l, Bs W (.slice a1 len1 cap1) l := by
    obtain ⟨fuel, hf⟩ := h1
    rcases open_ints Try.underlying23 Try.underlying5 (by kernel_rfl) hf with ⟨hcs, _⟩ | ⟨x, l, c, zs, hcs, _, hl, hm, hz, _, hcell, hwz⟩
    · simp [Value.cells] at hcs
      obtain ⟨rfl, rfl, rfl⟩ := hcs
      exact ⟨[], Row.nil W⟩
    · simp [Value.cells] at hcs
      obtain ⟨rfl, rfl, rfl⟩ := hcs
      exact bs_open hl hm (by simpa using hz) hcell hwz
  have k2 := h2
  have lt2 : ∀ x ∈ p2, x.block < W.heap.size := by obtain ⟨m, hm⟩ := k2; exact DataW.trod_lt m _ _ _ hm
  obtain ⟨a2, rfl, rfl, rfl, w2⟩ := open_int Try.underlying3 (hval 2 3 v2 rfl rfl) h2
  have k3 := h3
  have lt3 : ∀ x ∈ p3, x.block < W.heap.size := by obtain ⟨m, hm⟩ := k3; exact DataW.trod_lt m _ _ _ hm
  obtain ⟨a3, rfl, rfl, rfl, w3⟩ := open_int Try.underlying3 (hval 3 3 v3 rfl rfl) h3
  clear hA0 hval0
  refine Calls.mono (RingUses_c (.slice a0 len0 cap0) b0 (.slice a1 len1 cap1) b1 a2 a3 W H0 H1 (rng_i64 w2) (rng_i64 w3)) fun e W' ⟨v', he, hv, bel⟩ => ?_
  subst he
  subst hv
  exact ⟨_, rfl, _, _, _, [], _, [], hW', trodAll_mk1 (shut_bool Try.underlying4 _), (trodAll_cons_mk (Below.trod laidOut (by kernel_rfl) (of_decide_eq_true (by kernel_rfl)) k0 bel lt0) (trodAll_cons_mk (Below.trod laidOut (by kernel_rfl) (of_decide_eq_true (by kernel_rfl)) k1 bel lt1) (trodAll_cons_mk (Below.trod laidOut (by kernel_rfl) (of_decide_eq_true (by kernel_rfl)) k2 bel lt2) (trodAll_cons_mk (Below.trod laidOut (by kernel_rfl) (of_decide_eq_true (by kernel_rfl)) k3 bel lt3) trodAll_mk0)))), rfl, bel.frame _, fun h => by cases h⟩
theorem over : Rows.ringUsesRow.holds Try.pinned (OpenSpec.ofChange Rows.ringUsesSpec) :=
  OpenClaim.holds_of_wide 5 Try.f5 rfl rfl rfl rfl rfl rfl rfl ⟨rfl, rfl, rfl, rfl, rfl⟩ rfl rfl rfl rfl rfl (by kernel_rfl) Try.func5 (by kernel_rfl)
    (of_decide_eq_true (by kernel_rfl)) (by unfold Func.isWrapper; first | (rw [if_pos (by decide +kernel)]; kernel_rfl) | (rw [if_neg (by decide +kernel)]; exact ⟨rfl, rfl⟩))
    (fun os started H enc _ => lifted os started H enc)
end Go.Proofs.Ytdnlkkgbgjibgaa.ringUses
namespace Go.Proofs.Ytdnlkkgbgjibgaa
theorem RingUses_holds : Rows.RingUsesSaid := ringUses.over
end Go.Proofs.Ytdnlkkgbgjibgaa
