/-
  Of signs the boxes of two texts of one length, made in two suites by the same steps, are the same bytes; and are opened to unlike texts.
  Its conditions: none: whatever the input, in whatever memory.
-/
import Derived.Test.YtamjafnjohiccaaRows
import Derived.Test.YtamjafnjohiccaaWalksC
import Derived.ProofKit
import Derived.OpenShut
import Derived.ShutString
import Derived.ChangeOld
set_option linter.unusedVariables false
set_option linter.unusedSimpArgs false
namespace Go.Proofs.Ytamjafnjohiccaa.suiteHides
open Go.ChangeShapes Go.WideShapes Go.ChangeAt Go.RowKit Go.Ecal
open Go.ChangeMaps (open_string shut_string)
set_option maxRecDepth 100000 in
set_option maxHeartbeats 4000000 in
theorem SuiteHides_w (v0 : Value) (a : List UInt8) (v1 : Value) (b : List UInt8) (ahead : Int) (nonce : List UInt8) (v4 : Value) (other : List UInt8) (I : Gh) (R : List HP) (w : World) (S : Sat w I (R)) (Q0 : RoB I v0 a) (Q1 : RoB I v1 b) (Q2 : RoB I v4 other) (rahead : -9223372036854775808 ≤ ahead ∧ ahead ≤ 9223372036854775807) (lnonce : nonce.length = 12) : Ret Try.prog 6 [v0, v1, .int .i64 ahead, .agg (nonce.map byt).toArray, v4] w fun v w' => ∃ J : Gh, Gh.le I J ∧ .bool true = v ∧ Sat w' J (R) := by
  have lq0 := RoB.le Q0 S.le
  have lq1 := RoB.le Q1 S.le
  have lq2 := RoB.le Q2 S.le
  refine ret_E Try.func6 rfl Try.ntmps6 (by simp) ?_
  refine EC_seq ?_
  refine EC_reg ?_
  refine EL_box (nonce.map byt) rfl rfl rfl ?_
  intro b11 w12 k13 A14 B15 z16
  have S17 : Sat w12 I (Blk b11 39 (nonce.map byt) :: R) := S.newB B15 A14 k13
  refine EL_val (.bool false) w12 rfl (r_assign rfl) ?_
  refine EL_nil ?_
  refine thn_n ?_
  refine EC_seq ?_
  refine EC_seq ?_
  refine EC_reg ?_
  refine EL_ret [] rfl Try.func10 rfl nm10 rfl (anchor_c I _ _ S17) ?_
  rintro _ w18 ⟨I20, le21, rfl, S19⟩
  refine EL_val (.bool false) w18 rfl (r_dec (show (!true) = false from rfl) (r_not rfl)) ?_
  refine EL_nil ?_
  refine thn_n ?_
  refine EC_cond_false rfl ?_
  refine EC_skip ?_
  refine thn_n ?_
  refine EC_seq ?_
  refine EC_seq ?_
  refine EC_reg ?_
  refine EL_val v0 w18 rfl (r_move rfl) ?_
  refine EL_val (.int .i64 (a.length : Int)) w18 rfl (lenB (r_len rfl (Q0 _ (Gh.le_trans le21 S19.le)) Try.underlying22)) ?_
  refine EL_val v1 w18 rfl (r_move rfl) ?_
  refine EL_val (.int .i64 (b.length : Int)) w18 rfl (lenB (r_len rfl (Q1 _ (Gh.le_trans le21 S19.le)) Try.underlying22)) ?_
  refine EL_val (.bool (decide ((a.length : Int) ≠ (b.length : Int)))) w18 rfl (r_neq rfl rfl) ?_
  refine EL_val (.bool (decide ((a.length : Int) ≠ (b.length : Int)))) w18 rfl (r_move rfl) ?_
  refine EL_gite 30 rfl rfl rfl v0 rfl (fun g22 => r_move rfl) ?_
  refine EL_gite 30 rfl rfl rfl (.int .i64 (a.length : Int)) rfl (fun g23 => lenB (r_len (cond_of g23 rfl) (Q0 _ (Gh.le_trans le21 S19.le)) Try.underlying22)) ?_
  refine EL_gite 30 rfl rfl rfl (.bool (decide (100 < (a.length : Int)))) rfl (fun g24 => r_gtr (cond_of g24 rfl) rfl) ?_
  refine EL_val (.bool ((decide ((a.length : Int) ≠ (b.length : Int))) || (decide (100 < (a.length : Int))))) w18 rfl (r_or rfl rfl rfl) ?_
  refine EL_val (.bool ((decide ((a.length : Int) ≠ (b.length : Int))) || (decide (100 < (a.length : Int))))) w18 rfl (r_move rfl) ?_
  refine EL_gite 35 rfl rfl rfl (.int .i64 ahead) rfl (fun g25 => r_move rfl) ?_
  refine EL_gite 35 rfl rfl rfl (.bool (decide (ahead < 1))) rfl (fun g26 => r_lss (cond_of g26 rfl) rfl) ?_
  refine EL_val (.bool (((decide ((a.length : Int) ≠ (b.length : Int))) || (decide (100 < (a.length : Int)))) || (decide (ahead < 1)))) w18 rfl (r_or rfl rfl rfl) ?_
  refine EL_val (.bool (((decide ((a.length : Int) ≠ (b.length : Int))) || (decide (100 < (a.length : Int)))) || (decide (ahead < 1)))) w18 rfl (r_move rfl) ?_
  refine EL_gite 39 rfl rfl rfl (.int .i64 ahead) rfl (fun g27 => r_move rfl) ?_
  refine EL_gite 39 rfl rfl rfl (.bool (decide (20 < ahead))) rfl (fun g28 => r_gtr (cond_of g28 rfl) rfl) ?_
  refine EL_val (.bool ((((decide ((a.length : Int) ≠ (b.length : Int))) || (decide (100 < (a.length : Int)))) || (decide (ahead < 1))) || (decide (20 < ahead)))) w18 rfl (r_or rfl rfl rfl) ?_
  refine EL_val (.bool ((((decide ((a.length : Int) ≠ (b.length : Int))) || (decide (100 < (a.length : Int)))) || (decide (ahead < 1))) || (decide (20 < ahead)))) w18 rfl (r_move rfl) ?_
  refine EL_gite 43 rfl rfl rfl v4 rfl (fun g29 => r_move rfl) ?_
  refine EL_gite 43 rfl rfl rfl (.int .i64 (other.length : Int)) rfl (fun g30 => lenB (r_len (cond_of g30 rfl) (Q2 _ (Gh.le_trans le21 S19.le)) Try.underlying22)) ?_
  refine EL_gite 43 rfl rfl rfl (.bool (decide (100 < (other.length : Int)))) rfl (fun g31 => r_gtr (cond_of g31 rfl) rfl) ?_
  refine EL_val (.bool (((((decide ((a.length : Int) ≠ (b.length : Int))) || (decide (100 < (a.length : Int)))) || (decide (ahead < 1))) || (decide (20 < ahead))) || (decide (100 < (other.length : Int))))) w18 rfl (r_or rfl rfl rfl) ?_
  refine EL_nil ?_
  refine thn_n ?_
  refine EC_cond (t := ((((decide ((a.length : Int) ≠ (b.length : Int))) || (decide (100 < (a.length : Int)))) || (decide (ahead < 1))) || (decide (20 < ahead))) || (decide (100 < (other.length : Int)))) rfl (fun h32 => ?_) (fun h32 => ?_)
  · simp at h32
    refine EC_seq ?_
    refine EC_reg ?_
    refine EL_val (.bool true) w18 rfl (r_assign rfl) ?_
    refine EL_nil ?_
    refine thn_n ?_
    refine EC_ret ?_
    refine thn_r ?_
    refine fin1 Try.results6 (show _ = .bool true from rfl) ⟨_, rfl, ?_⟩
    have S33 : Sat w18 I20 (R) := S19.drop 0 rfl
    exact ⟨I20, le21, rfl, S33⟩
  · simp at h32
    refine EC_skip ?_
    refine thn_n ?_
    refine EC_seq ?_
    refine EC_reg ?_
    refine EL_ret [] rfl Try.func11 rfl nm11 rfl (Signs_c I20 _ _ S19) ?_
    rintro _ w34 ⟨p36, rfl, S35⟩
    refine EL_ret [] rfl Try.func11 rfl nm11 rfl (Signs_c I20 _ _ S35) ?_
    rintro _ w37 ⟨p39, rfl, S38⟩
    refine EL_val p36 w37 rfl (r_assign rfl) ?_
    refine EL_val p39 w37 rfl (r_assign rfl) ?_
    refine EL_nil ?_
    refine thn_n ?_
    refine EC_seq ?_
    refine EC_reg ?_
    refine EL_val (.slice none 0 0) w37 rfl (r_assign rfl) ?_
    refine EL_val (.slice none 0 0) w37 rfl (r_assign rfl) ?_
    refine EL_nil ?_
    refine thn_n ?_
    refine EC_seq ?_
    refine EC_seq ?_
    refine EC_reg ?_
    refine EL_val (.int .i64 ahead) w37 rfl (r_move rfl) ?_
    refine EL_val (.int .i64 0) w37 rfl (r_move rfl) ?_
    refine EL_nil ?_
    refine thn_n ?_
    refine EC_block ?_
    have q41 : ([] : List Thing) = List.replicate 0 tKey := rfl
    have S40 : Sat w37 I20 (Suite p39 (List.replicate 0 tKey) :: Suite p36 ([] : List Thing) :: Blk b11 39 (nonce.map byt) :: R) := S38.as 0 rfl (congrArg (fun zz => Suite p39 zz) q41)
    have q43 : ([] : List Thing) = List.replicate 0 tKey := rfl
    have S42 : Sat w37 I20 (Suite p39 (List.replicate 0 tKey) :: Suite p36 (List.replicate 0 tKey) :: Blk b11 39 (nonce.map byt) :: R) := S40.as 1 rfl (congrArg (fun zz => Suite p36 zz) q43)
    have S45 : Sat w37 I20 (OwnB (.slice none 0 0) (keyOf 0) :: Suite p39 (List.replicate 0 tKey) :: Suite p36 (List.replicate 0 tKey) :: Blk b11 39 (nonce.map byt) :: R) := S42.nil 5 1
    have S47 : Sat w37 I20 (OwnB (.slice none 0 0) (keyOf 0) :: OwnB (.slice none 0 0) (keyOf 0) :: Suite p39 (List.replicate 0 tKey) :: Suite p36 (List.replicate 0 tKey) :: Blk b11 39 (nonce.map byt) :: R) := S45.nil 5 1
    refine EC_loop (fun m' E' w' => ∃ j : Nat, ∃ kv : Value, ∃ lv : Value, m' = ahead.toNat - j ∧ E' 51 = .int .i64 (j : Int) ∧ E' 13 = kv ∧ E' 14 = lv ∧ E' 0 = v0 ∧ E' 1 = v1 ∧ E' 4 = v4 ∧ E' 8 = ptr b11 ∧ E' 10 = .bool false ∧ E' 11 = p36 ∧ E' 12 = p39 ∧ E' 50 = .int .i64 ahead ∧ ((j : Int) ≤ ahead) ∧ Sat w' I20 (OwnB kv (keyOf j) :: OwnB lv (keyOf j) :: Suite p39 (List.replicate j tKey) :: Suite p36 (List.replicate j tKey) :: Blk b11 39 (nonce.map byt) :: R)) _ ⟨0, .slice none 0 0, .slice none 0 0, rfl, rfl, rfl, rfl, rfl, rfl, rfl, rfl, rfl, rfl, rfl, rfl, by omega, S47⟩ ?_
    rintro _ E48 w49 ⟨j, kv, lv, rfl, e50, e51, e52, e53, e54, e55, e56, e57, e58, e59, e60, hj, S61⟩
    refine EC_seq ?_
    refine EC_reg ?_
    refine EL_val (.bool (decide ((j : Int) < ahead))) w49 rfl (r_lss (by exact e50) (by exact e60)) ?_
    refine EL_nil ?_
    refine thn_n ?_
    refine EC_seq ?_
    refine EC_if (p := (j : Int) < ahead) rfl (fun h62 => ?_) (fun h62 => ?_)
    · refine EC_skip ?_
      refine thn_n ?_
      refine EC_seq ?_
      refine EC_block ?_
      refine EC_reg ?_
      refine EL_val p36 w49 rfl (r_move (by exact e58)) ?_
      have S63 : Sat w49 I20 (Suite p36 (List.replicate j tKey) :: OwnB kv (keyOf j) :: OwnB lv (keyOf j) :: Suite p39 (List.replicate j tKey) :: Blk b11 39 (nonce.map byt) :: R) := S61.cons_front (i := 3) rfl
      refine EL_ret [p36] rfl Try.func14 rfl nm14 rfl (Key_c p36 (List.replicate j tKey) I20 _ _ S63 (by simp; omega)) ?_
      rintro _ w64 ⟨v66, rfl, S65⟩
      refine EL_val p39 w64 rfl (r_move (by exact e59)) ?_
      have S67 : Sat w64 I20 (Suite p39 (List.replicate j tKey) :: OwnB v66 (signOf 75 (((List.replicate j tKey).length : Int) + 1)) :: Suite p36 ((List.replicate j tKey) ++ [tKey]) :: OwnB kv (keyOf j) :: OwnB lv (keyOf j) :: Blk b11 39 (nonce.map byt) :: R) := S65.cons_front (i := 4) rfl
      refine EL_ret [p39] rfl Try.func14 rfl nm14 rfl (Key_c p39 (List.replicate j tKey) I20 _ _ S67 (by simp; omega)) ?_
      rintro _ w68 ⟨v70, rfl, S69⟩
      refine EL_val v66 w68 rfl (r_assign rfl) ?_
      refine EL_val v70 w68 rfl (r_assign rfl) ?_
      refine EL_nil ?_
      refine inB_n ?_
      refine thn_n ?_
      refine EC_reg ?_
      refine EL_int ((j : Int) + 1) rfl (r_addi (by exact e50) rfl (by omega)) ?_
      intro x71 hx71
      refine EL_val (.int .i64 x71) w68 rfl (r_move rfl) ?_
      refine EL_nil ?_
      refine thn_n ?_
      have q73 : signOf 75 (((List.replicate j tKey).length : Int) + 1) = keyOf (j + 1) := keyOf_succ j
      have S72 : Sat w68 I20 (OwnB v70 (signOf 75 (((List.replicate j tKey).length : Int) + 1)) :: Suite p39 ((List.replicate j tKey) ++ [tKey]) :: OwnB v66 (keyOf (j + 1)) :: Suite p36 ((List.replicate j tKey) ++ [tKey]) :: OwnB kv (keyOf j) :: OwnB lv (keyOf j) :: Blk b11 39 (nonce.map byt) :: R) := S69.as 2 rfl (congrArg (fun zz => OwnB v66 zz) q73)
      have q75 : signOf 75 (((List.replicate j tKey).length : Int) + 1) = keyOf (j + 1) := keyOf_succ j
      have S74 : Sat w68 I20 (OwnB v70 (keyOf (j + 1)) :: Suite p39 ((List.replicate j tKey) ++ [tKey]) :: OwnB v66 (keyOf (j + 1)) :: Suite p36 ((List.replicate j tKey) ++ [tKey]) :: OwnB kv (keyOf j) :: OwnB lv (keyOf j) :: Blk b11 39 (nonce.map byt) :: R) := S72.as 0 rfl (congrArg (fun zz => OwnB v70 zz) q75)
      have q77 : (List.replicate j tKey) ++ [tKey] = List.replicate (j + 1) tKey := by rw [List.replicate_succ']
      have S76 : Sat w68 I20 (OwnB v70 (keyOf (j + 1)) :: Suite p39 (List.replicate (j + 1) tKey) :: OwnB v66 (keyOf (j + 1)) :: Suite p36 ((List.replicate j tKey) ++ [tKey]) :: OwnB kv (keyOf j) :: OwnB lv (keyOf j) :: Blk b11 39 (nonce.map byt) :: R) := S74.as 1 rfl (congrArg (fun zz => Suite p39 zz) q77)
      have q79 : (List.replicate j tKey) ++ [tKey] = List.replicate (j + 1) tKey := by rw [List.replicate_succ']
      have S78 : Sat w68 I20 (OwnB v70 (keyOf (j + 1)) :: Suite p39 (List.replicate (j + 1) tKey) :: OwnB v66 (keyOf (j + 1)) :: Suite p36 (List.replicate (j + 1) tKey) :: OwnB kv (keyOf j) :: OwnB lv (keyOf j) :: Blk b11 39 (nonce.map byt) :: R) := S76.as 3 rfl (congrArg (fun zz => Suite p36 zz) q79)
      have S80 : Sat w68 I20 (OwnB v70 (keyOf (j + 1)) :: Suite p39 (List.replicate (j + 1) tKey) :: OwnB v66 (keyOf (j + 1)) :: Suite p36 (List.replicate (j + 1) tKey) :: OwnB lv (keyOf j) :: Blk b11 39 (nonce.map byt) :: R) := S78.drop 4 rfl
      have S81 : Sat w68 I20 (OwnB v70 (keyOf (j + 1)) :: Suite p39 (List.replicate (j + 1) tKey) :: OwnB v66 (keyOf (j + 1)) :: Suite p36 (List.replicate (j + 1) tKey) :: Blk b11 39 (nonce.map byt) :: R) := S80.drop 4 rfl
      have S82 : Sat w68 I20 (Blk b11 39 (nonce.map byt) :: OwnB v70 (keyOf (j + 1)) :: Suite p39 (List.replicate (j + 1) tKey) :: OwnB v66 (keyOf (j + 1)) :: Suite p36 (List.replicate (j + 1) tKey) :: R) := S81.cons_front (i := 4) rfl
      have S83 : Sat w68 I20 (Suite p36 (List.replicate (j + 1) tKey) :: Blk b11 39 (nonce.map byt) :: OwnB v70 (keyOf (j + 1)) :: Suite p39 (List.replicate (j + 1) tKey) :: OwnB v66 (keyOf (j + 1)) :: R) := S82.cons_front (i := 4) rfl
      have S84 : Sat w68 I20 (Suite p39 (List.replicate (j + 1) tKey) :: Suite p36 (List.replicate (j + 1) tKey) :: Blk b11 39 (nonce.map byt) :: OwnB v70 (keyOf (j + 1)) :: OwnB v66 (keyOf (j + 1)) :: R) := S83.cons_front (i := 3) rfl
      have S85 : Sat w68 I20 (OwnB v70 (keyOf (j + 1)) :: Suite p39 (List.replicate (j + 1) tKey) :: Suite p36 (List.replicate (j + 1) tKey) :: Blk b11 39 (nonce.map byt) :: OwnB v66 (keyOf (j + 1)) :: R) := S84.cons_front (i := 3) rfl
      have S86 : Sat w68 I20 (OwnB v66 (keyOf (j + 1)) :: OwnB v70 (keyOf (j + 1)) :: Suite p39 (List.replicate (j + 1) tKey) :: Suite p36 (List.replicate (j + 1) tKey) :: Blk b11 39 (nonce.map byt) :: R) := S85.cons_front (i := 4) rfl
      refine ⟨_, ?_, j + 1, v66, v70, rfl, (Eq.trans (show _ = Value.int .i64 x71 from rfl) (congrArg _ (by omega))), rfl, rfl, (by exact e53), (by exact e54), (by exact e55), (by exact e56), (by exact e57), (by exact e58), (by exact e59), (by exact e60), by omega, S86⟩
      first | omega | (simp; omega)
    · refine EC_exit ?_
      refine thn_x ?_
      refine thn_x ?_
      refine inB_hit ?_
      refine thn_n ?_
      refine EC_seq ?_
      refine EC_reg ?_
      have hj0 : 0 < j := by omega
      have q88 : keyOf j = signOf 75 (j : Int) := keyOf_pos hj0
      have S87 : Sat w49 I20 (OwnB kv (signOf 75 (j : Int)) :: OwnB lv (keyOf j) :: Suite p39 (List.replicate j tKey) :: Suite p36 (List.replicate j tKey) :: Blk b11 39 (nonce.map byt) :: R) := S61.as 0 rfl (congrArg (fun zz => OwnB kv zz) q88)
      have q90 : keyOf j = signOf 75 (j : Int) := keyOf_pos hj0
      have S89 : Sat w49 I20 (OwnB kv (signOf 75 (j : Int)) :: OwnB lv (signOf 75 (j : Int)) :: Suite p39 (List.replicate j tKey) :: Suite p36 (List.replicate j tKey) :: Blk b11 39 (nonce.map byt) :: R) := S87.as 1 rfl (congrArg (fun zz => OwnB lv zz) q90)
      refine EL_val p36 w49 rfl (r_move (by exact e58)) ?_
      refine EL_val kv w49 rfl (r_move (by exact e51)) ?_
      obtain ⟨I91, le92, S93, H94⟩ : ∃ J : Gh, Gh.le I20 J ∧ Sat w49 J (OwnB kv (signOf 75 (j : Int)) :: OwnB lv (signOf 75 (j : Int)) :: Suite p39 (List.replicate j tKey) :: Suite p36 (List.replicate j tKey) :: R) ∧ ∀ w', J.le (gh w') → Arr w' b11 39 ((nonce.map byt)) := S89.frzB 4 rfl
      have H95 : RoB I91 (.slice (some ⟨b11, 0, none⟩) 12 12) nonce := frzB_row H94 (by first | assumption | (simp; omega) | simp) (by decide)
      refine EL_val (.slice (some ⟨b11, 0, none⟩) 12 12) w49 rfl (r_sliceA (by exact e56) Try.underlying39 (by kernel_rfl)) ?_
      refine EL_val v4 w49 rfl (r_move (by exact e55)) ?_
      refine EL_val v0 w49 rfl (r_move (by exact e53)) ?_
      obtain ⟨I96, le97, S98, H99⟩ : ∃ J : Gh, Gh.le I91 J ∧ Sat w49 J (OwnB lv (signOf 75 (j : Int)) :: Suite p39 (List.replicate j tKey) :: Suite p36 (List.replicate j tKey) :: R) ∧ Ro J kv ((signOf 75 (j : Int)).map byt) := S93.frz 0 rfl
      have S100 : Sat w49 I96 (Suite p36 (List.replicate j tKey) :: OwnB lv (signOf 75 (j : Int)) :: Suite p39 (List.replicate j tKey) :: R) := S98.cons_front (i := 2) rfl
      refine EL_ret [p36, kv, (.slice (some ⟨b11, 0, none⟩) 12 12), v4, v0] rfl Try.func16 rfl nm16 rfl (SealOk_c p36 (List.replicate j tKey) kv (signOf 75 (j : Int)) (.slice (some ⟨b11, 0, none⟩) 12 12) nonce v4 other v0 a I96 _ _ S100 H99 (H95.up le97) (Q2.up (Gh.le_trans (Gh.le_trans le21 le92) le97)) (Q0.up (Gh.le_trans (Gh.le_trans le21 le92) le97)) (by simp; omega) (by rw [sign_len]; decide) (by first | assumption | omega | (simp; done) | (simp; omega)) (by first | assumption | omega | (simp; done) | (simp; omega)) (by first | omega | (rw [box_len]; omega)) (szOk_iff.2 ⟨rfl, by assumption⟩)) ?_
      rintro _ w101 ⟨v103, rfl, S102⟩
      refine EL_val (.tuple #[v103, .int .i64 0]) w101 rfl (r_move rfl) ?_
      refine EL_val v103 w101 rfl (r_extract rfl rfl) ?_
      refine EL_val (.int .i64 0) w101 rfl (r_extract rfl rfl) ?_
      refine EL_val v103 w101 rfl (r_assign rfl) ?_
      refine EL_val (.int .i64 0) w101 rfl (r_assign rfl) ?_
      refine EL_nil ?_
      refine thn_n ?_
      refine EC_seq ?_
      refine EC_reg ?_
      refine EL_val p39 w101 rfl (r_move (by exact e59)) ?_
      refine EL_val lv w101 rfl (r_move (by exact e52)) ?_
      refine EL_val (.slice (some ⟨b11, 0, none⟩) 12 12) w101 rfl (r_sliceA (by exact e56) Try.underlying39 (by kernel_rfl)) ?_
      refine EL_val v4 w101 rfl (r_move (by exact e55)) ?_
      refine EL_val v1 w101 rfl (r_move (by exact e54)) ?_
      obtain ⟨I104, le105, S106, H107⟩ : ∃ J : Gh, Gh.le I96 J ∧ Sat w101 J (OwnB v103 (boxOf (((List.replicate j tKey).length : Int) + 1) a.length) :: Suite p36 ((List.replicate j tKey) ++ [tBox (signOf 75 (j : Int)) nonce other a]) :: Suite p39 (List.replicate j tKey) :: R) ∧ Ro J lv ((signOf 75 (j : Int)).map byt) := S102.frz 2 rfl
      have S108 : Sat w101 I104 (Suite p39 (List.replicate j tKey) :: OwnB v103 (boxOf (((List.replicate j tKey).length : Int) + 1) a.length) :: Suite p36 ((List.replicate j tKey) ++ [tBox (signOf 75 (j : Int)) nonce other a]) :: R) := S106.cons_front (i := 2) rfl
      refine EL_ret [p39, lv, (.slice (some ⟨b11, 0, none⟩) 12 12), v4, v1] rfl Try.func16 rfl nm16 rfl (SealOk_c p39 (List.replicate j tKey) lv (signOf 75 (j : Int)) (.slice (some ⟨b11, 0, none⟩) 12 12) nonce v4 other v1 b I104 _ _ S108 H107 (H95.up (Gh.le_trans le97 le105)) (Q2.up (Gh.le_trans (Gh.le_trans (Gh.le_trans le21 le92) le97) le105)) (Q1.up (Gh.le_trans (Gh.le_trans (Gh.le_trans le21 le92) le97) le105)) (by simp; omega) (by rw [sign_len]; decide) (by first | assumption | omega | (simp; done) | (simp; omega)) (by first | assumption | omega | (simp; done) | (simp; omega)) (by first | omega | (rw [box_len]; omega)) (szOk_iff.2 ⟨rfl, by assumption⟩)) ?_
      rintro _ w109 ⟨v111, rfl, S110⟩
      refine EL_val (.tuple #[v111, .int .i64 0]) w109 rfl (r_move rfl) ?_
      refine EL_val v111 w109 rfl (r_extract rfl rfl) ?_
      refine EL_val (.int .i64 0) w109 rfl (r_extract rfl rfl) ?_
      refine EL_val v111 w109 rfl (r_assign rfl) ?_
      refine EL_val (.int .i64 0) w109 rfl (r_assign rfl) ?_
      refine EL_nil ?_
      refine thn_n ?_
      refine EC_seq ?_
      refine EC_reg ?_
      refine EL_val p36 w109 rfl (r_move (by exact e58)) ?_
      refine EL_val kv w109 rfl (r_move (by exact e51)) ?_
      refine EL_val (.slice (some ⟨b11, 0, none⟩) 12 12) w109 rfl (r_sliceA (by exact e56) Try.underlying39 (by kernel_rfl)) ?_
      refine EL_val v4 w109 rfl (r_move (by exact e55)) ?_
      refine EL_val v103 w109 rfl (r_move rfl) ?_
      obtain ⟨I112, le113, S114, H115⟩ : ∃ J : Gh, Gh.le I104 J ∧ Sat w109 J (OwnB v111 (boxOf (((List.replicate j tKey).length : Int) + 1) b.length) :: Suite p39 ((List.replicate j tKey) ++ [tBox (signOf 75 (j : Int)) nonce other b]) :: Suite p36 ((List.replicate j tKey) ++ [tBox (signOf 75 (j : Int)) nonce other a]) :: R) ∧ Ro J v103 ((boxOf (((List.replicate j tKey).length : Int) + 1) a.length).map byt) := S110.frz 2 rfl
      have S116 : Sat w109 I112 (Suite p36 ((List.replicate j tKey) ++ [tBox (signOf 75 (j : Int)) nonce other a]) :: OwnB v111 (boxOf (((List.replicate j tKey).length : Int) + 1) b.length) :: Suite p39 ((List.replicate j tKey) ++ [tBox (signOf 75 (j : Int)) nonce other b]) :: R) := S114.cons_front (i := 2) rfl
      refine EL_ret [p36, kv, (.slice (some ⟨b11, 0, none⟩) 12 12), v4, v103] rfl Try.func18 rfl nm18 rfl (OpenOk_c p36 ((List.replicate j tKey) ++ [tBox (signOf 75 (j : Int)) nonce other a]) kv (signOf 75 (j : Int)) (.slice (some ⟨b11, 0, none⟩) 12 12) nonce v4 other v103 (boxOf (((List.replicate j tKey).length : Int) + 1) a.length) a I112 _ _ S116 (H99.up (Gh.le_trans le105 le113)) (H95.up (Gh.le_trans (Gh.le_trans le97 le105) le113)) (Q2.up (Gh.le_trans (Gh.le_trans (Gh.le_trans (Gh.le_trans le21 le92) le97) le105) le113)) H115 (by simp; omega) (by rw [sign_len]; decide) (by first | assumption | omega | (simp; done) | (simp; omega)) (by first | assumption | omega | (simp; done) | (simp; omega)) (by first | omega | (rw [box_len]; omega)) (small_snoc small_rep (by dsimp only; omega)) (szOk_iff.2 ⟨rfl, by assumption⟩) (open_box At.last (by simp; omega))) ?_
      rintro _ w117 ⟨v119, I120, le121, rfl, H122, S118⟩
      refine EL_val (.tuple #[v119, .int .i64 0]) w117 rfl (r_move rfl) ?_
      refine EL_val v119 w117 rfl (r_extract rfl rfl) ?_
      refine EL_val (.int .i64 0) w117 rfl (r_extract rfl rfl) ?_
      refine EL_val v119 w117 rfl (r_assign rfl) ?_
      refine EL_val (.int .i64 0) w117 rfl (r_assign rfl) ?_
      refine EL_nil ?_
      refine thn_n ?_
      refine EC_seq ?_
      refine EC_reg ?_
      refine EL_val p39 w117 rfl (r_move (by exact e59)) ?_
      refine EL_val lv w117 rfl (r_move (by exact e52)) ?_
      refine EL_val (.slice (some ⟨b11, 0, none⟩) 12 12) w117 rfl (r_sliceA (by exact e56) Try.underlying39 (by kernel_rfl)) ?_
      refine EL_val v4 w117 rfl (r_move (by exact e55)) ?_
      refine EL_val v111 w117 rfl (r_move rfl) ?_
      obtain ⟨I123, le124, S125, H126⟩ : ∃ J : Gh, Gh.le I120 J ∧ Sat w117 J (Suite p36 ((List.replicate j tKey) ++ [tBox (signOf 75 (j : Int)) nonce other a]) :: Suite p39 ((List.replicate j tKey) ++ [tBox (signOf 75 (j : Int)) nonce other b]) :: R) ∧ Ro J v111 ((boxOf (((List.replicate j tKey).length : Int) + 1) b.length).map byt) := S118.frz 1 rfl
      have S127 : Sat w117 I123 (Suite p39 ((List.replicate j tKey) ++ [tBox (signOf 75 (j : Int)) nonce other b]) :: Suite p36 ((List.replicate j tKey) ++ [tBox (signOf 75 (j : Int)) nonce other a]) :: R) := S125.cons_front (i := 1) rfl
      refine EL_ret [p39, lv, (.slice (some ⟨b11, 0, none⟩) 12 12), v4, v111] rfl Try.func18 rfl nm18 rfl (OpenOk_c p39 ((List.replicate j tKey) ++ [tBox (signOf 75 (j : Int)) nonce other b]) lv (signOf 75 (j : Int)) (.slice (some ⟨b11, 0, none⟩) 12 12) nonce v4 other v111 (boxOf (((List.replicate j tKey).length : Int) + 1) b.length) b I123 _ _ S127 (H107.up (Gh.le_trans (Gh.le_trans le113 le121) le124)) (H95.up (Gh.le_trans (Gh.le_trans (Gh.le_trans (Gh.le_trans le97 le105) le113) le121) le124)) (Q2.up (Gh.le_trans (Gh.le_trans (Gh.le_trans (Gh.le_trans (Gh.le_trans (Gh.le_trans le21 le92) le97) le105) le113) le121) le124)) H126 (by simp; omega) (by rw [sign_len]; decide) (by first | assumption | omega | (simp; done) | (simp; omega)) (by first | assumption | omega | (simp; done) | (simp; omega)) (by first | omega | (rw [box_len]; omega)) (small_snoc small_rep (by dsimp only; omega)) (szOk_iff.2 ⟨rfl, by assumption⟩) (open_box At.last (by simp; omega))) ?_
      rintro _ w128 ⟨v130, I131, le132, rfl, H133, S129⟩
      refine EL_val (.tuple #[v130, .int .i64 0]) w128 rfl (r_move rfl) ?_
      refine EL_val v130 w128 rfl (r_extract rfl rfl) ?_
      refine EL_val (.int .i64 0) w128 rfl (r_extract rfl rfl) ?_
      refine EL_val v130 w128 rfl (r_assign rfl) ?_
      refine EL_val (.int .i64 0) w128 rfl (r_assign rfl) ?_
      refine EL_nil ?_
      refine thn_n ?_
      refine EC_seq ?_
      refine EC_reg ?_
      refine EL_val (.int .i64 0) w128 rfl (r_move rfl) ?_
      refine EL_val (.bool true) w128 rfl (r_dec (by decide) (r_eql rfl rfl)) ?_
      refine EL_val (.bool true) w128 rfl (r_move rfl) ?_
      refine EL_gval 96 rfl rfl rfl rfl (.int .i64 0) w128 rfl (r_move rfl) ?_
      refine EL_gval 96 rfl rfl rfl rfl (.bool true) w128 rfl (r_dec (by decide) (r_eql rfl rfl)) ?_
      refine EL_val (.bool true) w128 rfl (r_pickT rfl rfl) ?_
      refine EL_val (.bool true) w128 rfl (r_move rfl) ?_
      refine EL_gval 100 rfl rfl rfl rfl (.int .i64 0) w128 rfl (r_move rfl) ?_
      refine EL_gval 100 rfl rfl rfl rfl (.bool true) w128 rfl (r_dec (by decide) (r_eql rfl rfl)) ?_
      refine EL_val (.bool true) w128 rfl (r_pickT rfl rfl) ?_
      refine EL_val (.bool true) w128 rfl (r_move rfl) ?_
      refine EL_gval 104 rfl rfl rfl rfl (.int .i64 0) w128 rfl (r_move rfl) ?_
      refine EL_gval 104 rfl rfl rfl rfl (.bool true) w128 rfl (r_dec (by decide) (r_eql rfl rfl)) ?_
      refine EL_val (.bool true) w128 rfl (r_pickT rfl rfl) ?_
      refine EL_val (.bool true) w128 rfl (r_move rfl) ?_
      refine EL_gval 108 rfl rfl rfl rfl v103 w128 rfl (r_move rfl) ?_
      refine EL_gval 108 rfl rfl rfl rfl (.string (str (boxOf (((List.replicate j tKey).length : Int) + 1) a.length))) w128 rfl (r_str rfl (H115 _ (Gh.le_trans (Gh.le_trans (Gh.le_trans le121 le124) le132) S129.le)) Try.underlying22 Try.underlying5 Try.underlying9) ?_
      refine EL_gval 108 rfl rfl rfl rfl v111 w128 rfl (r_move rfl) ?_
      refine EL_gval 108 rfl rfl rfl rfl (.string (str (boxOf (((List.replicate j tKey).length : Int) + 1) b.length))) w128 rfl (r_str rfl (H126 _ (Gh.le_trans le132 S129.le)) Try.underlying22 Try.underlying5 Try.underlying9) ?_
      refine EL_gval 108 rfl rfl rfl rfl (.bool true) w128 rfl (r_dec (show (decide ((boxOf (((List.replicate j tKey).length : Int) + 1) a.length) = (boxOf (((List.replicate j tKey).length : Int) + 1) b.length))) = true from (by rw [decide_eq_true_eq, show a.length = b.length by omega])) (r_eqls rfl rfl)) ?_
      refine EL_val (.bool true) w128 rfl (r_pickT rfl rfl) ?_
      refine EL_val (.bool true) w128 rfl (r_move rfl) ?_
      refine EL_gval 115 rfl rfl rfl rfl v119 w128 rfl (r_move rfl) ?_
      refine EL_gval 115 rfl rfl rfl rfl (.string (str a)) w128 rfl (r_str rfl (H122 _ (Gh.le_trans (Gh.le_trans le124 le132) S129.le)) Try.underlying22 Try.underlying5 Try.underlying9) ?_
      refine EL_gval 115 rfl rfl rfl rfl v0 w128 rfl (r_move (by exact e53)) ?_
      refine EL_gval 115 rfl rfl rfl rfl (.string (str a)) w128 rfl (r_str rfl (Q0 _ (Gh.le_trans (Gh.le_trans (Gh.le_trans (Gh.le_trans (Gh.le_trans (Gh.le_trans (Gh.le_trans (Gh.le_trans le21 le92) le97) le105) le113) le121) le124) le132) S129.le)) Try.underlying22 Try.underlying5 Try.underlying9) ?_
      refine EL_gval 115 rfl rfl rfl rfl (.bool true) w128 rfl (r_dec (show decide (a = a) = true from by simp) (r_eqls rfl rfl)) ?_
      refine EL_val (.bool true) w128 rfl (r_pickT rfl rfl) ?_
      refine EL_val (.bool true) w128 rfl (r_move rfl) ?_
      refine EL_gval 122 rfl rfl rfl rfl v130 w128 rfl (r_move rfl) ?_
      refine EL_gval 122 rfl rfl rfl rfl (.string (str b)) w128 rfl (r_str rfl (H133 _ S129.le) Try.underlying22 Try.underlying5 Try.underlying9) ?_
      refine EL_gval 122 rfl rfl rfl rfl v1 w128 rfl (r_move (by exact e54)) ?_
      refine EL_gval 122 rfl rfl rfl rfl (.string (str b)) w128 rfl (r_str rfl (Q1 _ (Gh.le_trans (Gh.le_trans (Gh.le_trans (Gh.le_trans (Gh.le_trans (Gh.le_trans (Gh.le_trans (Gh.le_trans le21 le92) le97) le105) le113) le121) le124) le132) S129.le)) Try.underlying22 Try.underlying5 Try.underlying9) ?_
      refine EL_gval 122 rfl rfl rfl rfl (.bool true) w128 rfl (r_dec (show decide (b = b) = true from by simp) (r_eqls rfl rfl)) ?_
      refine EL_val (.bool true) w128 rfl (r_pickT rfl rfl) ?_
      refine EL_val (.bool true) w128 rfl (r_assign rfl) ?_
      refine EL_nil ?_
      refine thn_n ?_
      refine EC_ret ?_
      refine fin1 Try.results6 (show _ = .bool true from rfl) ⟨_, rfl, ?_⟩
      have S134 : Sat w128 I131 (Suite p36 ((List.replicate j tKey) ++ [tBox (signOf 75 (j : Int)) nonce other a]) :: R) := S129.drop 0 rfl
      have S135 : Sat w128 I131 (R) := S134.drop 0 rfl
      exact ⟨I131, (Gh.le_trans (Gh.le_trans (Gh.le_trans (Gh.le_trans (Gh.le_trans (Gh.le_trans (Gh.le_trans le21 le92) le97) le105) le113) le121) le124) le132), rfl, S135⟩
theorem SuiteHides_c (v0 : Value) (a : List UInt8) (v1 : Value) (b : List UInt8) (ahead : Int) (nonce : List UInt8) (v4 : Value) (other : List UInt8) (w : World) (H0 : Bs w v0 a) (H1 : Bs w v1 b) (rahead : -9223372036854775808 ≤ ahead ∧ ahead ≤ 9223372036854775807) (lnonce : nonce.length = 12) (H4 : Bs w v4 other) : Ret Try.prog 6 [v0, v1, .int .i64 ahead, .agg (nonce.map byt).toArray, v4] w fun v w' => v = .bool true ∧ Below w.heap.size w w' :=
  (SuiteHides_w v0 a v1 b ahead nonce v4 other (gh w) [] w (Sat.start w) (Row.ro H0) (Row.ro H1) (Row.ro H4) rahead lnonce).mono fun v w' h => by obtain ⟨J, le, e, S⟩ := h; exact ⟨e.symm, S.fin le⟩
theorem own : ownKnob Try.prog.godebug = none := by kernel_rfl
theorem laidOut : laidOutB Try.prog = true := by kernel_rfl
set_option maxRecDepth 100000 in
theorem lifted (os : Os) (started : os.Started) (H : Type) (enc : TypeId × Value → H) :
    ReturnsInHanded {} Try.checked os 6 .any (Rows.suiteHidesSpec.pre6 enc Try.prog Try.f6 Rows.suiteHidesRow.domain false) (Rows.suiteHidesSpec.post enc Try.prog Try.f6 false true false false) := by
  refine returnsInHanded_of_change (C := Try.checked) own started (by kernel_rfl) Try.func6
    (ChangeSpec.witness6 (enc := enc) (C := Try.checked) false ⟨#[], #[.slice none 0 0, .slice none 0 0, .int .i64 0, .agg #[.int .u8 0, .int .u8 0, .int .u8 0, .int .u8 0, .int .u8 0, .int .u8 0, .int .u8 0, .int .u8 0, .int .u8 0, .int .u8 0, .int .u8 0, .int .u8 0], .slice none 0 0], []⟩ 8 (by kernel_rfl) (by kernel_rfl) (by kernel_rfl) (by kernel_rfl)) ?_
  intro W base args ds gs before hval0 hW hcnd _
  have hval : ∀ (j : Nat) t v, Try.f6.params[j]? = some t → args[j]? = some v → Value.okWide Try.prog W .any base t v := hval0
  have hW' := hW
  obtain ⟨p, q, hA0, hV, rfl, hfz, hnd⟩ := hW
  have hA : DataW.TrodAll enc Try.prog W 0 (fun _ => true) true Try.f6.params.toList args.toList ds p := hA0
  rw [Try.params6] at hA hval
  obtain ⟨v0, vs0, d0, ds0, p0, q0, hargs, rfl, rfl, h0, r0⟩ := trodAll_cons hA
  obtain ⟨v1, vs1, d1, ds1, p1, q1, rfl, rfl, rfl, h1, r1⟩ := trodAll_cons r0
  obtain ⟨v2, vs2, d2, ds2, p2, q2, rfl, rfl, rfl, h2, r2⟩ := trodAll_cons r1
  obtain ⟨v3, vs3, d3, ds3, p3, q3, rfl, rfl, rfl, h3, r3⟩ := trodAll_cons r2
  obtain ⟨v4, vs4, d4, ds4, p4, q4, rfl, rfl, rfl, h4, r4⟩ := trodAll_cons r3
  obtain ⟨rfl, rfl, rfl⟩ := trodAll_nil r4
  obtain rfl : args = #[v0, v1, v2, v3, v4] := by cases args; simp_all
  obtain ⟨rfl, rfl⟩ := trodVars_none hV
  have k0 := h0
  have lt0 : ∀ x ∈ p0, x.block < W.heap.size := by obtain ⟨m, hm⟩ := k0; exact DataW.trod_lt m _ _ _ hm
  obtain ⟨a0, len0, cap0, rfl⟩ := okWide_slice Try.underlying22 (hval 0 22 v0 rfl rfl)
  obtain ⟨b0, H0⟩ : ∃ l, Bs W (.slice a0 len0 cap0) l := by
    obtain ⟨fuel, hf⟩ := h0
    rcases open_ints Try.underlying22 Try.underlying5 (by kernel_rfl) hf with ⟨hcs, _⟩ | ⟨x, l, c, zs, hcs, _, hl, hm, hz, _, hcell, hwz⟩
    · simp [Value.cells] at hcs
      obtain ⟨rfl, rfl, rfl⟩ := hcs
      exact ⟨[], Row.nil W⟩
    · simp [Value.cells] at hcs
      obtain ⟨rfl, rfl, rfl⟩ := hcs
      exact bs_open hl hm (by simpa using hz) hcell hwz
  have k1 := h1
  have lt1 : ∀ x ∈ p1, x.block < W.heap.size := by obtain ⟨m, hm⟩ := k1; exact DataW.trod_lt m _ _ _ hm
  obtain ⟨a1, len1, cap1, rfl⟩ := okWide_slice Try.underlying22 (hval 1 22 v1 rfl rfl)
  obtain ⟨b1, H1⟩ : ∃ l, Bs W (.slice a1 len1 cap1) l := by
    obtain ⟨fuel, hf⟩ := h1
    rcases open_ints Try.underlying22 Try.underlying5 (by kernel_rfl) hf with ⟨hcs, _⟩ | ⟨x, l, c, zs, hcs, _, hl, hm, hz, _, hcell, hwz⟩
    · simp [Value.cells] at hcs
      obtain ⟨rfl, rfl, rfl⟩ := hcs
      exact ⟨[], Row.nil W⟩
    · simp [Value.cells] at hcs
      obtain ⟨rfl, rfl, rfl⟩ := hcs
      exact bs_open hl hm (by simpa using hz) hcell hwz
  have k2 := h2
  have lt2 : ∀ x ∈ p2, x.block < W.heap.size := by obtain ⟨m, hm⟩ := k2; exact DataW.trod_lt m _ _ _ hm
  obtain ⟨a2, rfl, rfl, rfl, w2⟩ := open_int Try.underlying3 (hval 2 3 v2 rfl rfl) h2
  have k3 := h3
  have lt3 : ∀ x ∈ p3, x.block < W.heap.size := by obtain ⟨m, hm⟩ := k3; exact DataW.trod_lt m _ _ _ hm
  obtain ⟨l3, hl3, rfl⟩ := arr_open (n := 12) Try.underlying39 Try.underlying5 (by kernel_rfl) (by kernel_rfl) (hval 3 39 v3 rfl rfl) h3
  have k4 := h4
  have lt4 : ∀ x ∈ p4, x.block < W.heap.size := by obtain ⟨m, hm⟩ := k4; exact DataW.trod_lt m _ _ _ hm
  obtain ⟨a4, len4, cap4, rfl⟩ := okWide_slice Try.underlying22 (hval 4 22 v4 rfl rfl)
  obtain ⟨b4, H4⟩ : ∃ l, Bs W (.slice a4 len4 cap4) l := by
    obtain ⟨fuel, hf⟩ := h4
    rcases open_ints Try.underlying22 Try.underlying5 (by kernel_rfl) hf with ⟨hcs, _⟩ | ⟨x, l, c, zs, hcs, _, hl, hm, hz, _, hcell, hwz⟩
    · simp [Value.cells] at hcs
      obtain ⟨rfl, rfl, rfl⟩ := hcs
      exact ⟨[], Row.nil W⟩
    · simp [Value.cells] at hcs
      obtain ⟨rfl, rfl, rfl⟩ := hcs
      exact bs_open hl hm (by simpa using hz) hcell hwz
  clear hA0 hval0
  refine Calls.mono (SuiteHides_c (.slice a0 len0 cap0) b0 (.slice a1 len1 cap1) b1 a2 l3 (.slice a4 len4 cap4) b4 W H0 H1 (rng_i64 w2) hl3 H4) fun e W' ⟨v', he, hv, bel⟩ => ?_
  subst he
  subst hv
  exact ⟨_, rfl, _, _, _, [], _, [], hW', trodAll_mk1 (shut_bool Try.underlying4 _), (trodAll_cons_mk (Below.trod laidOut (by kernel_rfl) (of_decide_eq_true (by kernel_rfl)) k0 bel lt0) (trodAll_cons_mk (Below.trod laidOut (by kernel_rfl) (of_decide_eq_true (by kernel_rfl)) k1 bel lt1) (trodAll_cons_mk (Below.trod laidOut (by kernel_rfl) (of_decide_eq_true (by kernel_rfl)) k2 bel lt2) (trodAll_cons_mk (Below.trod laidOut (by kernel_rfl) (of_decide_eq_true (by kernel_rfl)) k3 bel lt3) (trodAll_cons_mk (Below.trod laidOut (by kernel_rfl) (of_decide_eq_true (by kernel_rfl)) k4 bel lt4) trodAll_mk0))))), rfl, bel.frame _, fun h => by cases h⟩
theorem over : Rows.suiteHidesRow.holds Try.pinned (OpenSpec.ofChange Rows.suiteHidesSpec) :=
  OpenClaim.holds_of_wide 6 Try.f6 rfl rfl rfl rfl rfl rfl rfl ⟨rfl, rfl, rfl, rfl, rfl⟩ rfl rfl rfl rfl rfl (by kernel_rfl) Try.func6 (by kernel_rfl)
    (of_decide_eq_true (by kernel_rfl)) (by unfold Func.isWrapper; first | (rw [if_pos (by decide +kernel)]; kernel_rfl) | (rw [if_neg (by decide +kernel)]; exact ⟨rfl, rfl⟩))
    (fun os started H enc _ => lifted os started H enc)
end Go.Proofs.Ytamjafnjohiccaa.suiteHides
namespace Go.Proofs.Ytamjafnjohiccaa
theorem SuiteHides_holds : Rows.SuiteHidesSaid := suiteHides.over
end Go.Proofs.Ytamjafnjohiccaa
