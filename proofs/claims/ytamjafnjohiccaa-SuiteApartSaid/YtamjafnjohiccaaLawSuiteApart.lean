/-
  Of signs two texts have one sum just if they are the same; two codes are the same just if key and text are; a sum is never a code, nor a key.
  Its conditions: none: whatever the input, in whatever memory.
-/
import Derived.Test.YtamjafnjohiccaaRows
import Derived.Test.YtamjafnjohiccaaWalksC
import Derived.ProofKit
import Derived.OpenShut
import Derived.ShutString
import Derived.ChangeOld
set_option linter.unusedVariables false
set_option linter.unusedSimpArgs false
namespace Go.Proofs.Ytamjafnjohiccaa.suiteApart
open Go.ChangeShapes Go.WideShapes Go.ChangeAt Go.RowKit Go.Ecal
open Go.ChangeMaps (open_string shut_string)
set_option maxRecDepth 100000 in
set_option maxHeartbeats 4000000 in
theorem SuiteApart_w (v0 : Value) (a : List UInt8) (v1 : Value) (b : List UInt8) (v2 : Value) (k : List UInt8) (v3 : Value) (l : List UInt8) (I : Gh) (R : List HP) (w : World) (S : Sat w I (R)) (Q0 : RoB I v0 a) (Q1 : RoB I v1 b) (Q2 : RoB I v2 k) (Q3 : RoB I v3 l) : Ret Try.prog 3 [v0, v1, v2, v3] w fun v w' => ∃ J : Gh, Gh.le I J ∧ .bool true = v ∧ Sat w' J (R) := by
  have lq0 := RoB.le Q0 S.le
  have lq1 := RoB.le Q1 S.le
  have lq2 := RoB.le Q2 S.le
  have lq3 := RoB.le Q3 S.le
  refine ret_E Try.func3 rfl Try.ntmps3 (by simp) ?_
  refine EC_seq ?_
  refine EC_reg ?_
  refine EL_val (.bool false) w rfl (r_assign rfl) ?_
  refine EL_nil ?_
  refine thn_n ?_
  refine EC_seq ?_
  refine EC_seq ?_
  refine EC_reg ?_
  refine EL_ret [] rfl Try.func10 rfl nm10 rfl (anchor_c I _ _ S) ?_
  rintro _ w11 ⟨I13, le14, rfl, S12⟩
  refine EL_val (.bool false) w11 rfl (r_dec (show (!true) = false from rfl) (r_not rfl)) ?_
  refine EL_nil ?_
  refine thn_n ?_
  refine EC_cond_false rfl ?_
  refine EC_skip ?_
  refine thn_n ?_
  refine EC_seq ?_
  refine EC_seq ?_
  refine EC_reg ?_
  refine EL_val v0 w11 rfl (r_move rfl) ?_
  refine EL_val (.int .i64 (a.length : Int)) w11 rfl (lenB (r_len rfl (Q0 _ (Gh.le_trans le14 S12.le)) Try.underlying22)) ?_
  refine EL_val (.bool (decide (100 < (a.length : Int)))) w11 rfl (r_gtr rfl rfl) ?_
  refine EL_val (.bool (decide (100 < (a.length : Int)))) w11 rfl (r_move rfl) ?_
  refine EL_gite 21 rfl rfl rfl v1 rfl (fun g15 => r_move rfl) ?_
  refine EL_gite 21 rfl rfl rfl (.int .i64 (b.length : Int)) rfl (fun g16 => lenB (r_len (cond_of g16 rfl) (Q1 _ (Gh.le_trans le14 S12.le)) Try.underlying22)) ?_
  refine EL_gite 21 rfl rfl rfl (.bool (decide (100 < (b.length : Int)))) rfl (fun g17 => r_gtr (cond_of g17 rfl) rfl) ?_
  refine EL_val (.bool ((decide (100 < (a.length : Int))) || (decide (100 < (b.length : Int))))) w11 rfl (r_or rfl rfl rfl) ?_
  refine EL_val (.bool ((decide (100 < (a.length : Int))) || (decide (100 < (b.length : Int))))) w11 rfl (r_move rfl) ?_
  refine EL_gite 26 rfl rfl rfl v2 rfl (fun g18 => r_move rfl) ?_
  refine EL_gite 26 rfl rfl rfl (.int .i64 (k.length : Int)) rfl (fun g19 => lenB (r_len (cond_of g19 rfl) (Q2 _ (Gh.le_trans le14 S12.le)) Try.underlying22)) ?_
  refine EL_gite 26 rfl rfl rfl (.bool (decide (100 < (k.length : Int)))) rfl (fun g20 => r_gtr (cond_of g20 rfl) rfl) ?_
  refine EL_val (.bool (((decide (100 < (a.length : Int))) || (decide (100 < (b.length : Int)))) || (decide (100 < (k.length : Int))))) w11 rfl (r_or rfl rfl rfl) ?_
  refine EL_val (.bool (((decide (100 < (a.length : Int))) || (decide (100 < (b.length : Int)))) || (decide (100 < (k.length : Int))))) w11 rfl (r_move rfl) ?_
  refine EL_gite 31 rfl rfl rfl v3 rfl (fun g21 => r_move rfl) ?_
  refine EL_gite 31 rfl rfl rfl (.int .i64 (l.length : Int)) rfl (fun g22 => lenB (r_len (cond_of g22 rfl) (Q3 _ (Gh.le_trans le14 S12.le)) Try.underlying22)) ?_
  refine EL_gite 31 rfl rfl rfl (.bool (decide (100 < (l.length : Int)))) rfl (fun g23 => r_gtr (cond_of g23 rfl) rfl) ?_
  refine EL_val (.bool ((((decide (100 < (a.length : Int))) || (decide (100 < (b.length : Int)))) || (decide (100 < (k.length : Int)))) || (decide (100 < (l.length : Int))))) w11 rfl (r_or rfl rfl rfl) ?_
  refine EL_nil ?_
  refine thn_n ?_
  refine EC_cond (t := (((decide (100 < (a.length : Int))) || (decide (100 < (b.length : Int)))) || (decide (100 < (k.length : Int)))) || (decide (100 < (l.length : Int)))) rfl (fun h24 => ?_) (fun h24 => ?_)
  · simp at h24
    refine EC_seq ?_
    refine EC_reg ?_
    refine EL_val (.bool true) w11 rfl (r_assign rfl) ?_
    refine EL_nil ?_
    refine thn_n ?_
    refine EC_ret ?_
    refine thn_r ?_
    refine fin1 Try.results3 (show _ = .bool true from rfl) ⟨_, rfl, ?_⟩
    exact ⟨I13, le14, rfl, S12⟩
  · simp at h24
    refine EC_skip ?_
    refine thn_n ?_
    refine EC_seq ?_
    refine EC_reg ?_
    refine EL_ret [] rfl Try.func11 rfl nm11 rfl (Signs_c I13 _ _ S12) ?_
    rintro _ w25 ⟨p27, rfl, S26⟩
    refine EL_val p27 w25 rfl (r_assign rfl) ?_
    refine EL_nil ?_
    refine thn_n ?_
    refine EC_cut (fun E' w' => ∃ v6o2_1 : Value, ∃ v6o3_1 : Value, ∃ v6o7_1 : Value, ∃ v6o8_1 : Value, ∃ J : Gh, E' 0 = v0 ∧ E' 1 = v1 ∧ E' 2 = v2 ∧ E' 3 = v3 ∧ E' 8 = .bool false ∧ E' 9 = p27 ∧ E' 10 = .string (str (signOf 72 (onceN (tSum a) ([] : List Thing)))) ∧ E' 11 = .string (str (signOf 72 (onceN (tSum b) (onceL (tSum a) ([] : List Thing))))) ∧ Gh.le I13 J ∧ RoX J v6o2_1 bytesR [a] ∧ RoB J v6o3_1 (signOf 72 (onceN (tSum a) ([] : List Thing))) ∧ RoX J v6o7_1 bytesR [b] ∧ RoB J v6o8_1 (signOf 72 (onceN (tSum b) (onceL (tSum a) ([] : List Thing)))) ∧ Sat w' J (Suite p27 (onceL (tSum b) (onceL (tSum a) ([] : List Thing))) :: R)) ?_ ?_
    · refine EC_any 8 (fun w' => Gh.le I13 (gh w')) (fun w' => True) (by kernel_rfl) ?_
      intro w28 B29
      have S30 : Sat w28 I13 (Suite p27 ([] : List Thing) :: R) := S26.below B29
      refine EJ_take 0 rfl (by kernel_rfl) (by kernel_rfl) (by kernel_rfl) rfl (by kernel_rfl) p27 rfl (fun _ hw ht => r_move rfl) ⟨S30.le, fun h => trivial⟩ ?_
      refine EJ_take 1 rfl (by kernel_rfl) (by kernel_rfl) (by kernel_rfl) rfl (by kernel_rfl) v0 rfl (fun _ hw ht => r_move rfl) ⟨S30.le, fun h => trivial⟩ ?_
      refine EJ_take 5 rfl (by kernel_rfl) (by kernel_rfl) (by kernel_rfl) rfl (by kernel_rfl) p27 rfl (fun _ hw ht => r_move rfl) ⟨S30.le, fun h => trivial⟩ ?_
      refine EJ_take 6 rfl (by kernel_rfl) (by kernel_rfl) (by kernel_rfl) rfl (by kernel_rfl) v1 rfl (fun _ hw ht => r_move rfl) ⟨S30.le, fun h => trivial⟩ ?_
      refine EJ_two 2 7 (by kernel_rfl) ⟨_, rfl, ?_⟩ ⟨_, rfl, ?_⟩
      · refine EL_lit1 (l := [(0, v0)]) w28.heap.size [v0] el_36 rfl (by decide) rfl (Nat.le_refl _) (parts1 rfl) (Eq.trans (show Instr.fill _ _ [(0, v0)] = _ from (fill_one rfl (row_cells (Q0 _ (Gh.le_trans le14 S30.le))) (by kernel_rfl) fill_end)) (by kernel_rfl)) ?_
        intro v6o2_1 w31 O32 B33 k34
        have S35 : Sat w31 I13 (OwnX 22 bytesR v6o2_1 [a] :: Suite p27 ([] : List Thing) :: R) := OwnX.cls (xss := [[v0]]) (.cons ⟨_, rfl, (row_one (Q0 _ (Gh.le_trans le14 S30.le))), (Q0.up le14)⟩ .nil) (S30.newO B33 O32)
        refine EL_nil ?_
        refine ⟨rfl, ⟨S35.le, fun h => trivial⟩, ?_⟩
        refine EJ_two 3 7 (by kernel_rfl) ⟨_, rfl, ?_⟩ ⟨_, rfl, ?_⟩
        · have oH39 := (OwnX.one S35 0 rfl (by decide))
          obtain ⟨I36, le37, S38, H39⟩ : ∃ J : Gh, Gh.le I13 J ∧ Sat w31 J (Suite p27 ([] : List Thing) :: R) ∧ RoX J v6o2_1 bytesR [a] := OwnX.frz S35 0 rfl (by decide)
          refine EL_ret [p27, v6o2_1] rfl Try.func12 rfl nm12 rfl (Sum_c p27 ([] : List Thing) v6o2_1 [a] I36 _ _ S38 H39 (Nat.le_trans (Nat.le_refl 0) (by decide)) (by simp; omega)) ?_
          rintro _ w40 ⟨v6o3_1, rfl, S41⟩
          have q43 : signOf 72 (onceN (tSum [a].flatten) ([] : List Thing)) = signOf 72 (onceN (tSum a) ([] : List Thing)) := by simp only [List.flatten_cons, List.flatten_nil, List.append_nil]
          have S42 : Sat w40 I36 (OwnB v6o3_1 (signOf 72 (onceN (tSum a) ([] : List Thing))) :: Suite p27 (onceL (tSum [a].flatten) ([] : List Thing)) :: R) := by have := S41; rw [q43] at this; exact this
          have q45 : onceL (tSum [a].flatten) ([] : List Thing) = onceL (tSum a) ([] : List Thing) := by simp only [List.flatten_cons, List.flatten_nil, List.append_nil]
          have S44 : Sat w40 I36 (OwnB v6o3_1 (signOf 72 (onceN (tSum a) ([] : List Thing))) :: Suite p27 (onceL (tSum a) ([] : List Thing)) :: R) := by have := S42; rw [q45] at this; exact this
          refine EL_nil ?_
          refine ⟨rfl, ⟨(Gh.le_trans le37 S44.le), fun h => trivial⟩, ?_⟩
          obtain ⟨I46, le47, S48, H49⟩ : ∃ J : Gh, Gh.le I36 J ∧ Sat w40 J (Suite p27 (onceL (tSum a) ([] : List Thing)) :: R) ∧ Ro J v6o3_1 ((signOf 72 (onceN (tSum a) ([] : List Thing))).map byt) := S44.frz 0 rfl
          refine EJ_strong (fun w' => Gh.le I46 (gh w')) _ (fun w' hw => Gh.le_trans (Gh.le_trans le37 le47) hw) (fun w' _ ht => ht) ?_
          refine EJ_float 4 rfl (by kernel_rfl) (by kernel_rfl) (by kernel_rfl) rfl (.string (str (signOf 72 (onceN (tSum a) ([] : List Thing))))) rfl (fun _ hw => r_str rfl (H49 _ hw) Try.underlying22 Try.underlying5 Try.underlying9) ⟨S48.le, fun h => trivial⟩ ?_
          refine EJ_one 7 (by kernel_rfl) ⟨_, rfl, ?_⟩
          refine EL_lit1 (l := [(0, v1)]) w40.heap.size [v1] el_36 rfl (by decide) rfl (Nat.le_refl _) (parts1 rfl) (Eq.trans (show Instr.fill _ _ [(0, v1)] = _ from (fill_one rfl (row_cells (Q1 _ (Gh.le_trans (Gh.le_trans (Gh.le_trans le14 le37) le47) S48.le))) (by kernel_rfl) fill_end)) (by kernel_rfl)) ?_
          intro v6o7_1 w50 O51 B52 k53
          have S54 : Sat w50 I46 (OwnX 22 bytesR v6o7_1 [b] :: Suite p27 (onceL (tSum a) ([] : List Thing)) :: R) := OwnX.cls (xss := [[v1]]) (.cons ⟨_, rfl, (row_one (Q1 _ (Gh.le_trans (Gh.le_trans (Gh.le_trans le14 le37) le47) S48.le))), (Q1.up (Gh.le_trans (Gh.le_trans le14 le37) le47))⟩ .nil) (S48.newO B52 O51)
          refine EL_nil ?_
          refine ⟨rfl, ⟨S54.le, fun h => trivial⟩, ?_⟩
          refine EJ_one 8 (by kernel_rfl) ⟨_, rfl, ?_⟩
          have oH58 := (OwnX.one S54 0 rfl (by decide))
          obtain ⟨I55, le56, S57, H58⟩ : ∃ J : Gh, Gh.le I46 J ∧ Sat w50 J (Suite p27 (onceL (tSum a) ([] : List Thing)) :: R) ∧ RoX J v6o7_1 bytesR [b] := OwnX.frz S54 0 rfl (by decide)
          refine EL_ret [p27, v6o7_1] rfl Try.func12 rfl nm12 rfl (Sum_c p27 (onceL (tSum a) ([] : List Thing)) v6o7_1 [b] I55 _ _ S57 H58 (Nat.le_trans (Nat.le_trans (onceL_len _ _) (Nat.succ_le_succ (Nat.le_refl 0))) (by decide)) (by simp; omega)) ?_
          rintro _ w59 ⟨v6o8_1, rfl, S60⟩
          have q62 : signOf 72 (onceN (tSum [b].flatten) (onceL (tSum a) ([] : List Thing))) = signOf 72 (onceN (tSum b) (onceL (tSum a) ([] : List Thing))) := by simp only [List.flatten_cons, List.flatten_nil, List.append_nil]
          have S61 : Sat w59 I55 (OwnB v6o8_1 (signOf 72 (onceN (tSum b) (onceL (tSum a) ([] : List Thing)))) :: Suite p27 (onceL (tSum [b].flatten) (onceL (tSum a) ([] : List Thing))) :: R) := by have := S60; rw [q62] at this; exact this
          have q64 : onceL (tSum [b].flatten) (onceL (tSum a) ([] : List Thing)) = onceL (tSum b) (onceL (tSum a) ([] : List Thing)) := by simp only [List.flatten_cons, List.flatten_nil, List.append_nil]
          have S63 : Sat w59 I55 (OwnB v6o8_1 (signOf 72 (onceN (tSum b) (onceL (tSum a) ([] : List Thing)))) :: Suite p27 (onceL (tSum b) (onceL (tSum a) ([] : List Thing))) :: R) := by have := S61; rw [q64] at this; exact this
          refine EL_nil ?_
          refine ⟨rfl, ⟨(Gh.le_trans le56 S63.le), fun h => by cases h⟩, ?_⟩
          refine EJ_strong (fun w' => Gh.le I55 (gh w')) _ (fun w' hw => Gh.le_trans le56 hw) (fun w' _ ht => ht) ?_
          obtain ⟨I65, le66, S67, H68⟩ : ∃ J : Gh, Gh.le I55 J ∧ Sat w59 J (Suite p27 (onceL (tSum b) (onceL (tSum a) ([] : List Thing))) :: R) ∧ Ro J v6o8_1 ((signOf 72 (onceN (tSum b) (onceL (tSum a) ([] : List Thing)))).map byt) := S63.frz 0 rfl
          refine EJ_strong (fun w' => Gh.le I65 (gh w')) _ (fun w' hw => Gh.le_trans le66 hw) (fun w' _ ht => ht) ?_
          refine EJ_float 9 rfl (by kernel_rfl) (by kernel_rfl) (by kernel_rfl) rfl (.string (str (signOf 72 (onceN (tSum b) (onceL (tSum a) ([] : List Thing)))))) rfl (fun _ hw => r_str rfl (H68 _ hw) Try.underlying22 Try.underlying5 Try.underlying9) ⟨S67.le, fun h => by cases h⟩ ?_
          refine EJ_float 10 rfl (by kernel_rfl) (by kernel_rfl) (by kernel_rfl) rfl (.string (str (signOf 72 (onceN (tSum a) ([] : List Thing))))) rfl (fun _ hw => r_assign rfl) ⟨S67.le, fun h => by cases h⟩ ?_
          refine EJ_float 11 rfl (by kernel_rfl) (by kernel_rfl) (by kernel_rfl) rfl (.string (str (signOf 72 (onceN (tSum b) (onceL (tSum a) ([] : List Thing)))))) rfl (fun _ hw => r_assign rfl) ⟨S67.le, fun h => by cases h⟩ ?_
          refine EJ_done (by kernel_rfl) ?_
          refine thn_n ?_
          exact ⟨v6o2_1, v6o3_1, v6o7_1, v6o8_1, I65, rfl, rfl, rfl, rfl, rfl, rfl, rfl, rfl, (Gh.le_trans (Gh.le_trans (Gh.le_trans le37 le47) le56) le66), (H39.up (Gh.le_trans (Gh.le_trans le47 le56) le66)), (H49.up (Gh.le_trans le56 le66)), (H58.up le66), H68, S67⟩
        · refine EL_lit1 (l := [(0, v1)]) w31.heap.size [v1] el_36 rfl (by decide) rfl (Nat.le_refl _) (parts1 rfl) (Eq.trans (show Instr.fill _ _ [(0, v1)] = _ from (fill_one rfl (row_cells (Q1 _ (Gh.le_trans le14 S35.le))) (by kernel_rfl) fill_end)) (by kernel_rfl)) ?_
          intro v6o7_1 w69 O70 B71 k72
          have S73 : Sat w69 I13 (OwnX 22 bytesR v6o7_1 [b] :: OwnX 22 bytesR v6o2_1 [a] :: Suite p27 ([] : List Thing) :: R) := OwnX.cls (xss := [[v1]]) (.cons ⟨_, rfl, (row_one (Q1 _ (Gh.le_trans le14 S35.le))), (Q1.up le14)⟩ .nil) (S35.newO B71 O70)
          refine EL_nil ?_
          refine ⟨rfl, ⟨S73.le, fun h => trivial⟩, ?_⟩
          refine EJ_one 3 (by kernel_rfl) ⟨_, rfl, ?_⟩
          have oH77 := (OwnX.one S73 1 rfl (by decide))
          obtain ⟨I74, le75, S76, H77⟩ : ∃ J : Gh, Gh.le I13 J ∧ Sat w69 J (OwnX 22 bytesR v6o7_1 [b] :: Suite p27 ([] : List Thing) :: R) ∧ RoX J v6o2_1 bytesR [a] := OwnX.frz S73 1 rfl (by decide)
          have S78 : Sat w69 I74 (Suite p27 ([] : List Thing) :: OwnX 22 bytesR v6o7_1 [b] :: R) := S76.cons_front (i := 1) rfl
          refine EL_ret [p27, v6o2_1] rfl Try.func12 rfl nm12 rfl (Sum_c p27 ([] : List Thing) v6o2_1 [a] I74 _ _ S78 H77 (Nat.le_trans (Nat.le_refl 0) (by decide)) (by simp; omega)) ?_
          rintro _ w79 ⟨v6o3_1, rfl, S80⟩
          have q82 : signOf 72 (onceN (tSum [a].flatten) ([] : List Thing)) = signOf 72 (onceN (tSum a) ([] : List Thing)) := by simp only [List.flatten_cons, List.flatten_nil, List.append_nil]
          have S81 : Sat w79 I74 (OwnB v6o3_1 (signOf 72 (onceN (tSum a) ([] : List Thing))) :: Suite p27 (onceL (tSum [a].flatten) ([] : List Thing)) :: OwnX 22 bytesR v6o7_1 [b] :: R) := by have := S80; rw [q82] at this; exact this
          have q84 : onceL (tSum [a].flatten) ([] : List Thing) = onceL (tSum a) ([] : List Thing) := by simp only [List.flatten_cons, List.flatten_nil, List.append_nil]
          have S83 : Sat w79 I74 (OwnB v6o3_1 (signOf 72 (onceN (tSum a) ([] : List Thing))) :: Suite p27 (onceL (tSum a) ([] : List Thing)) :: OwnX 22 bytesR v6o7_1 [b] :: R) := by have := S81; rw [q84] at this; exact this
          refine EL_nil ?_
          refine ⟨rfl, ⟨(Gh.le_trans le75 S83.le), fun h => trivial⟩, ?_⟩
          refine EJ_strong (fun w' => Gh.le I74 (gh w')) _ (fun w' hw => Gh.le_trans le75 hw) (fun w' _ ht => ht) ?_
          obtain ⟨I85, le86, S87, H88⟩ : ∃ J : Gh, Gh.le I74 J ∧ Sat w79 J (Suite p27 (onceL (tSum a) ([] : List Thing)) :: OwnX 22 bytesR v6o7_1 [b] :: R) ∧ Ro J v6o3_1 ((signOf 72 (onceN (tSum a) ([] : List Thing))).map byt) := S83.frz 0 rfl
          refine EJ_strong (fun w' => Gh.le I85 (gh w')) _ (fun w' hw => Gh.le_trans le86 hw) (fun w' _ ht => ht) ?_
          refine EJ_float 4 rfl (by kernel_rfl) (by kernel_rfl) (by kernel_rfl) rfl (.string (str (signOf 72 (onceN (tSum a) ([] : List Thing))))) rfl (fun _ hw => r_str rfl (H88 _ hw) Try.underlying22 Try.underlying5 Try.underlying9) ⟨S87.le, fun h => trivial⟩ ?_
          refine EJ_one 8 (by kernel_rfl) ⟨_, rfl, ?_⟩
          have oH92 := (OwnX.one S87 1 rfl (by decide))
          obtain ⟨I89, le90, S91, H92⟩ : ∃ J : Gh, Gh.le I85 J ∧ Sat w79 J (Suite p27 (onceL (tSum a) ([] : List Thing)) :: R) ∧ RoX J v6o7_1 bytesR [b] := OwnX.frz S87 1 rfl (by decide)
          refine EL_ret [p27, v6o7_1] rfl Try.func12 rfl nm12 rfl (Sum_c p27 (onceL (tSum a) ([] : List Thing)) v6o7_1 [b] I89 _ _ S91 H92 (Nat.le_trans (Nat.le_trans (onceL_len _ _) (Nat.succ_le_succ (Nat.le_refl 0))) (by decide)) (by simp; omega)) ?_
          rintro _ w93 ⟨v6o8_1, rfl, S94⟩
          have q96 : signOf 72 (onceN (tSum [b].flatten) (onceL (tSum a) ([] : List Thing))) = signOf 72 (onceN (tSum b) (onceL (tSum a) ([] : List Thing))) := by simp only [List.flatten_cons, List.flatten_nil, List.append_nil]
          have S95 : Sat w93 I89 (OwnB v6o8_1 (signOf 72 (onceN (tSum b) (onceL (tSum a) ([] : List Thing)))) :: Suite p27 (onceL (tSum [b].flatten) (onceL (tSum a) ([] : List Thing))) :: R) := by have := S94; rw [q96] at this; exact this
          have q98 : onceL (tSum [b].flatten) (onceL (tSum a) ([] : List Thing)) = onceL (tSum b) (onceL (tSum a) ([] : List Thing)) := by simp only [List.flatten_cons, List.flatten_nil, List.append_nil]
          have S97 : Sat w93 I89 (OwnB v6o8_1 (signOf 72 (onceN (tSum b) (onceL (tSum a) ([] : List Thing)))) :: Suite p27 (onceL (tSum b) (onceL (tSum a) ([] : List Thing))) :: R) := by have := S95; rw [q98] at this; exact this
          refine EL_nil ?_
          refine ⟨rfl, ⟨(Gh.le_trans le90 S97.le), fun h => by cases h⟩, ?_⟩
          refine EJ_strong (fun w' => Gh.le I89 (gh w')) _ (fun w' hw => Gh.le_trans le90 hw) (fun w' _ ht => ht) ?_
          obtain ⟨I99, le100, S101, H102⟩ : ∃ J : Gh, Gh.le I89 J ∧ Sat w93 J (Suite p27 (onceL (tSum b) (onceL (tSum a) ([] : List Thing))) :: R) ∧ Ro J v6o8_1 ((signOf 72 (onceN (tSum b) (onceL (tSum a) ([] : List Thing)))).map byt) := S97.frz 0 rfl
          refine EJ_strong (fun w' => Gh.le I99 (gh w')) _ (fun w' hw => Gh.le_trans le100 hw) (fun w' _ ht => ht) ?_
          refine EJ_float 9 rfl (by kernel_rfl) (by kernel_rfl) (by kernel_rfl) rfl (.string (str (signOf 72 (onceN (tSum b) (onceL (tSum a) ([] : List Thing)))))) rfl (fun _ hw => r_str rfl (H102 _ hw) Try.underlying22 Try.underlying5 Try.underlying9) ⟨S101.le, fun h => by cases h⟩ ?_
          refine EJ_float 10 rfl (by kernel_rfl) (by kernel_rfl) (by kernel_rfl) rfl (.string (str (signOf 72 (onceN (tSum a) ([] : List Thing))))) rfl (fun _ hw => r_assign rfl) ⟨S101.le, fun h => by cases h⟩ ?_
          refine EJ_float 11 rfl (by kernel_rfl) (by kernel_rfl) (by kernel_rfl) rfl (.string (str (signOf 72 (onceN (tSum b) (onceL (tSum a) ([] : List Thing)))))) rfl (fun _ hw => r_assign rfl) ⟨S101.le, fun h => by cases h⟩ ?_
          refine EJ_done (by kernel_rfl) ?_
          refine thn_n ?_
          exact ⟨v6o2_1, v6o3_1, v6o7_1, v6o8_1, I99, rfl, rfl, rfl, rfl, rfl, rfl, rfl, rfl, (Gh.le_trans (Gh.le_trans (Gh.le_trans le75 le86) le90) le100), (H77.up (Gh.le_trans (Gh.le_trans le86 le90) le100)), (H88.up (Gh.le_trans le90 le100)), (H92.up le100), H102, S101⟩
      · refine EL_lit1 (l := [(0, v1)]) w28.heap.size [v1] el_36 rfl (by decide) rfl (Nat.le_refl _) (parts1 rfl) (Eq.trans (show Instr.fill _ _ [(0, v1)] = _ from (fill_one rfl (row_cells (Q1 _ (Gh.le_trans le14 S30.le))) (by kernel_rfl) fill_end)) (by kernel_rfl)) ?_
        intro v6o7_1 w103 O104 B105 k106
        have S107 : Sat w103 I13 (OwnX 22 bytesR v6o7_1 [b] :: Suite p27 ([] : List Thing) :: R) := OwnX.cls (xss := [[v1]]) (.cons ⟨_, rfl, (row_one (Q1 _ (Gh.le_trans le14 S30.le))), (Q1.up le14)⟩ .nil) (S30.newO B105 O104)
        refine EL_nil ?_
        refine ⟨rfl, ⟨S107.le, fun h => trivial⟩, ?_⟩
        refine EJ_one 2 (by kernel_rfl) ⟨_, rfl, ?_⟩
        refine EL_lit1 (l := [(0, v0)]) w103.heap.size [v0] el_36 rfl (by decide) rfl (Nat.le_refl _) (parts1 rfl) (Eq.trans (show Instr.fill _ _ [(0, v0)] = _ from (fill_one rfl (row_cells (Q0 _ (Gh.le_trans le14 S107.le))) (by kernel_rfl) fill_end)) (by kernel_rfl)) ?_
        intro v6o2_1 w108 O109 B110 k111
        have S112 : Sat w108 I13 (OwnX 22 bytesR v6o2_1 [a] :: OwnX 22 bytesR v6o7_1 [b] :: Suite p27 ([] : List Thing) :: R) := OwnX.cls (xss := [[v0]]) (.cons ⟨_, rfl, (row_one (Q0 _ (Gh.le_trans le14 S107.le))), (Q0.up le14)⟩ .nil) (S107.newO B110 O109)
        refine EL_nil ?_
        refine ⟨rfl, ⟨S112.le, fun h => trivial⟩, ?_⟩
        refine EJ_one 3 (by kernel_rfl) ⟨_, rfl, ?_⟩
        have oH116 := (OwnX.one S112 0 rfl (by decide))
        obtain ⟨I113, le114, S115, H116⟩ : ∃ J : Gh, Gh.le I13 J ∧ Sat w108 J (OwnX 22 bytesR v6o7_1 [b] :: Suite p27 ([] : List Thing) :: R) ∧ RoX J v6o2_1 bytesR [a] := OwnX.frz S112 0 rfl (by decide)
        have S117 : Sat w108 I113 (Suite p27 ([] : List Thing) :: OwnX 22 bytesR v6o7_1 [b] :: R) := S115.cons_front (i := 1) rfl
        refine EL_ret [p27, v6o2_1] rfl Try.func12 rfl nm12 rfl (Sum_c p27 ([] : List Thing) v6o2_1 [a] I113 _ _ S117 H116 (Nat.le_trans (Nat.le_refl 0) (by decide)) (by simp; omega)) ?_
        rintro _ w118 ⟨v6o3_1, rfl, S119⟩
        have q121 : signOf 72 (onceN (tSum [a].flatten) ([] : List Thing)) = signOf 72 (onceN (tSum a) ([] : List Thing)) := by simp only [List.flatten_cons, List.flatten_nil, List.append_nil]
        have S120 : Sat w118 I113 (OwnB v6o3_1 (signOf 72 (onceN (tSum a) ([] : List Thing))) :: Suite p27 (onceL (tSum [a].flatten) ([] : List Thing)) :: OwnX 22 bytesR v6o7_1 [b] :: R) := by have := S119; rw [q121] at this; exact this
        have q123 : onceL (tSum [a].flatten) ([] : List Thing) = onceL (tSum a) ([] : List Thing) := by simp only [List.flatten_cons, List.flatten_nil, List.append_nil]
        have S122 : Sat w118 I113 (OwnB v6o3_1 (signOf 72 (onceN (tSum a) ([] : List Thing))) :: Suite p27 (onceL (tSum a) ([] : List Thing)) :: OwnX 22 bytesR v6o7_1 [b] :: R) := by have := S120; rw [q123] at this; exact this
        refine EL_nil ?_
        refine ⟨rfl, ⟨(Gh.le_trans le114 S122.le), fun h => trivial⟩, ?_⟩
        refine EJ_strong (fun w' => Gh.le I113 (gh w')) _ (fun w' hw => Gh.le_trans le114 hw) (fun w' _ ht => ht) ?_
        obtain ⟨I124, le125, S126, H127⟩ : ∃ J : Gh, Gh.le I113 J ∧ Sat w118 J (Suite p27 (onceL (tSum a) ([] : List Thing)) :: OwnX 22 bytesR v6o7_1 [b] :: R) ∧ Ro J v6o3_1 ((signOf 72 (onceN (tSum a) ([] : List Thing))).map byt) := S122.frz 0 rfl
        refine EJ_strong (fun w' => Gh.le I124 (gh w')) _ (fun w' hw => Gh.le_trans le125 hw) (fun w' _ ht => ht) ?_
        refine EJ_float 4 rfl (by kernel_rfl) (by kernel_rfl) (by kernel_rfl) rfl (.string (str (signOf 72 (onceN (tSum a) ([] : List Thing))))) rfl (fun _ hw => r_str rfl (H127 _ hw) Try.underlying22 Try.underlying5 Try.underlying9) ⟨S126.le, fun h => trivial⟩ ?_
        refine EJ_one 8 (by kernel_rfl) ⟨_, rfl, ?_⟩
        have oH131 := (OwnX.one S126 1 rfl (by decide))
        obtain ⟨I128, le129, S130, H131⟩ : ∃ J : Gh, Gh.le I124 J ∧ Sat w118 J (Suite p27 (onceL (tSum a) ([] : List Thing)) :: R) ∧ RoX J v6o7_1 bytesR [b] := OwnX.frz S126 1 rfl (by decide)
        refine EL_ret [p27, v6o7_1] rfl Try.func12 rfl nm12 rfl (Sum_c p27 (onceL (tSum a) ([] : List Thing)) v6o7_1 [b] I128 _ _ S130 H131 (Nat.le_trans (Nat.le_trans (onceL_len _ _) (Nat.succ_le_succ (Nat.le_refl 0))) (by decide)) (by simp; omega)) ?_
        rintro _ w132 ⟨v6o8_1, rfl, S133⟩
        have q135 : signOf 72 (onceN (tSum [b].flatten) (onceL (tSum a) ([] : List Thing))) = signOf 72 (onceN (tSum b) (onceL (tSum a) ([] : List Thing))) := by simp only [List.flatten_cons, List.flatten_nil, List.append_nil]
        have S134 : Sat w132 I128 (OwnB v6o8_1 (signOf 72 (onceN (tSum b) (onceL (tSum a) ([] : List Thing)))) :: Suite p27 (onceL (tSum [b].flatten) (onceL (tSum a) ([] : List Thing))) :: R) := by have := S133; rw [q135] at this; exact this
        have q137 : onceL (tSum [b].flatten) (onceL (tSum a) ([] : List Thing)) = onceL (tSum b) (onceL (tSum a) ([] : List Thing)) := by simp only [List.flatten_cons, List.flatten_nil, List.append_nil]
        have S136 : Sat w132 I128 (OwnB v6o8_1 (signOf 72 (onceN (tSum b) (onceL (tSum a) ([] : List Thing)))) :: Suite p27 (onceL (tSum b) (onceL (tSum a) ([] : List Thing))) :: R) := by have := S134; rw [q137] at this; exact this
        refine EL_nil ?_
        refine ⟨rfl, ⟨(Gh.le_trans le129 S136.le), fun h => by cases h⟩, ?_⟩
        refine EJ_strong (fun w' => Gh.le I128 (gh w')) _ (fun w' hw => Gh.le_trans le129 hw) (fun w' _ ht => ht) ?_
        obtain ⟨I138, le139, S140, H141⟩ : ∃ J : Gh, Gh.le I128 J ∧ Sat w132 J (Suite p27 (onceL (tSum b) (onceL (tSum a) ([] : List Thing))) :: R) ∧ Ro J v6o8_1 ((signOf 72 (onceN (tSum b) (onceL (tSum a) ([] : List Thing)))).map byt) := S136.frz 0 rfl
        refine EJ_strong (fun w' => Gh.le I138 (gh w')) _ (fun w' hw => Gh.le_trans le139 hw) (fun w' _ ht => ht) ?_
        refine EJ_float 9 rfl (by kernel_rfl) (by kernel_rfl) (by kernel_rfl) rfl (.string (str (signOf 72 (onceN (tSum b) (onceL (tSum a) ([] : List Thing)))))) rfl (fun _ hw => r_str rfl (H141 _ hw) Try.underlying22 Try.underlying5 Try.underlying9) ⟨S140.le, fun h => by cases h⟩ ?_
        refine EJ_float 10 rfl (by kernel_rfl) (by kernel_rfl) (by kernel_rfl) rfl (.string (str (signOf 72 (onceN (tSum a) ([] : List Thing))))) rfl (fun _ hw => r_assign rfl) ⟨S140.le, fun h => by cases h⟩ ?_
        refine EJ_float 11 rfl (by kernel_rfl) (by kernel_rfl) (by kernel_rfl) rfl (.string (str (signOf 72 (onceN (tSum b) (onceL (tSum a) ([] : List Thing)))))) rfl (fun _ hw => r_assign rfl) ⟨S140.le, fun h => by cases h⟩ ?_
        refine EJ_done (by kernel_rfl) ?_
        refine thn_n ?_
        exact ⟨v6o2_1, v6o3_1, v6o7_1, v6o8_1, I138, rfl, rfl, rfl, rfl, rfl, rfl, rfl, rfl, (Gh.le_trans (Gh.le_trans (Gh.le_trans le114 le125) le129) le139), (H116.up (Gh.le_trans (Gh.le_trans le125 le129) le139)), (H127.up (Gh.le_trans le129 le139)), (H131.up le139), H141, S140⟩
    · rintro E142 w143 ⟨v6o2_1, v6o3_1, v6o7_1, v6o8_1, I65, e144, e145, e146, e147, e148, e149, e150, e151, le152, H153, H154, H155, H156, S157⟩
      refine EC_cut (fun E' w' => ∃ v7o3_1 : Value, ∃ v7o4_1 : Value, ∃ v7o9_1 : Value, ∃ v7o10_1 : Value, ∃ J : Gh, E' 0 = v0 ∧ E' 1 = v1 ∧ E' 2 = v2 ∧ E' 3 = v3 ∧ E' 8 = .bool false ∧ E' 9 = p27 ∧ E' 10 = .string (str (signOf 72 (onceN (tSum a) ([] : List Thing)))) ∧ E' 11 = .string (str (signOf 72 (onceN (tSum b) (onceL (tSum a) ([] : List Thing))))) ∧ E' 12 = .string (str (signOf 77 (onceN (tCode k a) (onceL (tSum b) (onceL (tSum a) ([] : List Thing)))))) ∧ E' 13 = .string (str (signOf 77 (onceN (tCode l b) (onceL (tCode k a) (onceL (tSum b) (onceL (tSum a) ([] : List Thing))))))) ∧ Gh.le I65 J ∧ RoX J v7o3_1 bytesR [a] ∧ RoB J v7o4_1 (signOf 77 (onceN (tCode k a) (onceL (tSum b) (onceL (tSum a) ([] : List Thing))))) ∧ RoX J v7o9_1 bytesR [b] ∧ RoB J v7o10_1 (signOf 77 (onceN (tCode l b) (onceL (tCode k a) (onceL (tSum b) (onceL (tSum a) ([] : List Thing)))))) ∧ Sat w' J (Suite p27 (onceL (tCode l b) (onceL (tCode k a) (onceL (tSum b) (onceL (tSum a) ([] : List Thing))))) :: R)) ?_ ?_
      · refine EC_any 10 (fun w' => Gh.le I65 (gh w')) (fun w' => True) (by kernel_rfl) ?_
        intro w158 B159
        have S160 : Sat w158 I65 (Suite p27 (onceL (tSum b) (onceL (tSum a) ([] : List Thing))) :: R) := S157.below B159
        refine EJ_take 0 rfl (by kernel_rfl) (by kernel_rfl) (by kernel_rfl) rfl (by kernel_rfl) p27 rfl (fun _ hw ht => r_move (by exact e149)) ⟨S160.le, fun h => trivial⟩ ?_
        refine EJ_take 1 rfl (by kernel_rfl) (by kernel_rfl) (by kernel_rfl) rfl (by kernel_rfl) v2 rfl (fun _ hw ht => r_move (by exact e146)) ⟨S160.le, fun h => trivial⟩ ?_
        refine EJ_take 2 rfl (by kernel_rfl) (by kernel_rfl) (by kernel_rfl) rfl (by kernel_rfl) v0 rfl (fun _ hw ht => r_move (by exact e144)) ⟨S160.le, fun h => trivial⟩ ?_
        refine EJ_take 6 rfl (by kernel_rfl) (by kernel_rfl) (by kernel_rfl) rfl (by kernel_rfl) p27 rfl (fun _ hw ht => r_move (by exact e149)) ⟨S160.le, fun h => trivial⟩ ?_
        refine EJ_take 7 rfl (by kernel_rfl) (by kernel_rfl) (by kernel_rfl) rfl (by kernel_rfl) v3 rfl (fun _ hw ht => r_move (by exact e147)) ⟨S160.le, fun h => trivial⟩ ?_
        refine EJ_take 8 rfl (by kernel_rfl) (by kernel_rfl) (by kernel_rfl) rfl (by kernel_rfl) v1 rfl (fun _ hw ht => r_move (by exact e145)) ⟨S160.le, fun h => trivial⟩ ?_
        refine EJ_two 3 9 (by kernel_rfl) ⟨_, rfl, ?_⟩ ⟨_, rfl, ?_⟩
        · refine EL_lit1 (l := [(0, v0)]) w158.heap.size [v0] el_36 rfl (by decide) rfl (Nat.le_refl _) (parts1 rfl) (Eq.trans (show Instr.fill _ _ [(0, v0)] = _ from (fill_one rfl (row_cells (Q0 _ (Gh.le_trans (Gh.le_trans le14 le152) S160.le))) (by kernel_rfl) fill_end)) (by kernel_rfl)) ?_
          intro v7o3_1 w161 O162 B163 k164
          have S165 : Sat w161 I65 (OwnX 22 bytesR v7o3_1 [a] :: Suite p27 (onceL (tSum b) (onceL (tSum a) ([] : List Thing))) :: R) := OwnX.cls (xss := [[v0]]) (.cons ⟨_, rfl, (row_one (Q0 _ (Gh.le_trans (Gh.le_trans le14 le152) S160.le))), (Q0.up (Gh.le_trans le14 le152))⟩ .nil) (S160.newO B163 O162)
          refine EL_nil ?_
          refine ⟨rfl, ⟨S165.le, fun h => trivial⟩, ?_⟩
          refine EJ_two 4 9 (by kernel_rfl) ⟨_, rfl, ?_⟩ ⟨_, rfl, ?_⟩
          · have oH169 := (OwnX.one S165 0 rfl (by decide))
            obtain ⟨I166, le167, S168, H169⟩ : ∃ J : Gh, Gh.le I65 J ∧ Sat w161 J (Suite p27 (onceL (tSum b) (onceL (tSum a) ([] : List Thing))) :: R) ∧ RoX J v7o3_1 bytesR [a] := OwnX.frz S165 0 rfl (by decide)
            refine EL_ret [p27, v2, v7o3_1] rfl Try.func13 rfl nm13 rfl (Code_c p27 (onceL (tSum b) (onceL (tSum a) ([] : List Thing))) v2 k v7o3_1 [a] I166 _ _ S168 (Q2.up (Gh.le_trans (Gh.le_trans le14 le152) le167)) H169 (Nat.le_trans (Nat.le_trans (onceL_len _ _) (Nat.succ_le_succ (Nat.le_trans (onceL_len _ _) (Nat.succ_le_succ (Nat.le_refl 0))))) (by decide)) (by first | assumption | omega | (simp; done) | (simp; omega)) (by simp; omega)) ?_
            rintro _ w170 ⟨v7o4_1, rfl, S171⟩
            have q173 : signOf 77 (onceN (tCode k [a].flatten) (onceL (tSum b) (onceL (tSum a) ([] : List Thing)))) = signOf 77 (onceN (tCode k a) (onceL (tSum b) (onceL (tSum a) ([] : List Thing)))) := by simp only [List.flatten_cons, List.flatten_nil, List.append_nil]
            have S172 : Sat w170 I166 (OwnB v7o4_1 (signOf 77 (onceN (tCode k a) (onceL (tSum b) (onceL (tSum a) ([] : List Thing))))) :: Suite p27 (onceL (tCode k [a].flatten) (onceL (tSum b) (onceL (tSum a) ([] : List Thing)))) :: R) := by have := S171; rw [q173] at this; exact this
            have q175 : onceL (tCode k [a].flatten) (onceL (tSum b) (onceL (tSum a) ([] : List Thing))) = onceL (tCode k a) (onceL (tSum b) (onceL (tSum a) ([] : List Thing))) := by simp only [List.flatten_cons, List.flatten_nil, List.append_nil]
            have S174 : Sat w170 I166 (OwnB v7o4_1 (signOf 77 (onceN (tCode k a) (onceL (tSum b) (onceL (tSum a) ([] : List Thing))))) :: Suite p27 (onceL (tCode k a) (onceL (tSum b) (onceL (tSum a) ([] : List Thing)))) :: R) := by have := S172; rw [q175] at this; exact this
            refine EL_nil ?_
            refine ⟨rfl, ⟨(Gh.le_trans le167 S174.le), fun h => trivial⟩, ?_⟩
            obtain ⟨I176, le177, S178, H179⟩ : ∃ J : Gh, Gh.le I166 J ∧ Sat w170 J (Suite p27 (onceL (tCode k a) (onceL (tSum b) (onceL (tSum a) ([] : List Thing)))) :: R) ∧ Ro J v7o4_1 ((signOf 77 (onceN (tCode k a) (onceL (tSum b) (onceL (tSum a) ([] : List Thing))))).map byt) := S174.frz 0 rfl
            refine EJ_strong (fun w' => Gh.le I176 (gh w')) _ (fun w' hw => Gh.le_trans (Gh.le_trans le167 le177) hw) (fun w' _ ht => ht) ?_
            refine EJ_float 5 rfl (by kernel_rfl) (by kernel_rfl) (by kernel_rfl) rfl (.string (str (signOf 77 (onceN (tCode k a) (onceL (tSum b) (onceL (tSum a) ([] : List Thing))))))) rfl (fun _ hw => r_str rfl (H179 _ hw) Try.underlying22 Try.underlying5 Try.underlying9) ⟨S178.le, fun h => trivial⟩ ?_
            refine EJ_one 9 (by kernel_rfl) ⟨_, rfl, ?_⟩
            refine EL_lit1 (l := [(0, v1)]) w170.heap.size [v1] el_36 rfl (by decide) rfl (Nat.le_refl _) (parts1 rfl) (Eq.trans (show Instr.fill _ _ [(0, v1)] = _ from (fill_one rfl (row_cells (Q1 _ (Gh.le_trans (Gh.le_trans (Gh.le_trans (Gh.le_trans le14 le152) le167) le177) S178.le))) (by kernel_rfl) fill_end)) (by kernel_rfl)) ?_
            intro v7o9_1 w180 O181 B182 k183
            have S184 : Sat w180 I176 (OwnX 22 bytesR v7o9_1 [b] :: Suite p27 (onceL (tCode k a) (onceL (tSum b) (onceL (tSum a) ([] : List Thing)))) :: R) := OwnX.cls (xss := [[v1]]) (.cons ⟨_, rfl, (row_one (Q1 _ (Gh.le_trans (Gh.le_trans (Gh.le_trans (Gh.le_trans le14 le152) le167) le177) S178.le))), (Q1.up (Gh.le_trans (Gh.le_trans (Gh.le_trans le14 le152) le167) le177))⟩ .nil) (S178.newO B182 O181)
            refine EL_nil ?_
            refine ⟨rfl, ⟨S184.le, fun h => trivial⟩, ?_⟩
            refine EJ_one 10 (by kernel_rfl) ⟨_, rfl, ?_⟩
            have oH188 := (OwnX.one S184 0 rfl (by decide))
            obtain ⟨I185, le186, S187, H188⟩ : ∃ J : Gh, Gh.le I176 J ∧ Sat w180 J (Suite p27 (onceL (tCode k a) (onceL (tSum b) (onceL (tSum a) ([] : List Thing)))) :: R) ∧ RoX J v7o9_1 bytesR [b] := OwnX.frz S184 0 rfl (by decide)
            refine EL_ret [p27, v3, v7o9_1] rfl Try.func13 rfl nm13 rfl (Code_c p27 (onceL (tCode k a) (onceL (tSum b) (onceL (tSum a) ([] : List Thing)))) v3 l v7o9_1 [b] I185 _ _ S187 (Q3.up (Gh.le_trans (Gh.le_trans (Gh.le_trans (Gh.le_trans le14 le152) le167) le177) le186)) H188 (Nat.le_trans (Nat.le_trans (onceL_len _ _) (Nat.succ_le_succ (Nat.le_trans (onceL_len _ _) (Nat.succ_le_succ (Nat.le_trans (onceL_len _ _) (Nat.succ_le_succ (Nat.le_refl 0))))))) (by decide)) (by first | assumption | omega | (simp; done) | (simp; omega)) (by simp; omega)) ?_
            rintro _ w189 ⟨v7o10_1, rfl, S190⟩
            have q192 : signOf 77 (onceN (tCode l [b].flatten) (onceL (tCode k a) (onceL (tSum b) (onceL (tSum a) ([] : List Thing))))) = signOf 77 (onceN (tCode l b) (onceL (tCode k a) (onceL (tSum b) (onceL (tSum a) ([] : List Thing))))) := by simp only [List.flatten_cons, List.flatten_nil, List.append_nil]
            have S191 : Sat w189 I185 (OwnB v7o10_1 (signOf 77 (onceN (tCode l b) (onceL (tCode k a) (onceL (tSum b) (onceL (tSum a) ([] : List Thing)))))) :: Suite p27 (onceL (tCode l [b].flatten) (onceL (tCode k a) (onceL (tSum b) (onceL (tSum a) ([] : List Thing))))) :: R) := by have := S190; rw [q192] at this; exact this
            have q194 : onceL (tCode l [b].flatten) (onceL (tCode k a) (onceL (tSum b) (onceL (tSum a) ([] : List Thing)))) = onceL (tCode l b) (onceL (tCode k a) (onceL (tSum b) (onceL (tSum a) ([] : List Thing)))) := by simp only [List.flatten_cons, List.flatten_nil, List.append_nil]
            have S193 : Sat w189 I185 (OwnB v7o10_1 (signOf 77 (onceN (tCode l b) (onceL (tCode k a) (onceL (tSum b) (onceL (tSum a) ([] : List Thing)))))) :: Suite p27 (onceL (tCode l b) (onceL (tCode k a) (onceL (tSum b) (onceL (tSum a) ([] : List Thing))))) :: R) := by have := S191; rw [q194] at this; exact this
            refine EL_nil ?_
            refine ⟨rfl, ⟨(Gh.le_trans le186 S193.le), fun h => by cases h⟩, ?_⟩
            refine EJ_strong (fun w' => Gh.le I185 (gh w')) _ (fun w' hw => Gh.le_trans le186 hw) (fun w' _ ht => ht) ?_
            obtain ⟨I195, le196, S197, H198⟩ : ∃ J : Gh, Gh.le I185 J ∧ Sat w189 J (Suite p27 (onceL (tCode l b) (onceL (tCode k a) (onceL (tSum b) (onceL (tSum a) ([] : List Thing))))) :: R) ∧ Ro J v7o10_1 ((signOf 77 (onceN (tCode l b) (onceL (tCode k a) (onceL (tSum b) (onceL (tSum a) ([] : List Thing)))))).map byt) := S193.frz 0 rfl
            refine EJ_strong (fun w' => Gh.le I195 (gh w')) _ (fun w' hw => Gh.le_trans le196 hw) (fun w' _ ht => ht) ?_
            refine EJ_float 11 rfl (by kernel_rfl) (by kernel_rfl) (by kernel_rfl) rfl (.string (str (signOf 77 (onceN (tCode l b) (onceL (tCode k a) (onceL (tSum b) (onceL (tSum a) ([] : List Thing)))))))) rfl (fun _ hw => r_str rfl (H198 _ hw) Try.underlying22 Try.underlying5 Try.underlying9) ⟨S197.le, fun h => by cases h⟩ ?_
            refine EJ_float 12 rfl (by kernel_rfl) (by kernel_rfl) (by kernel_rfl) rfl (.string (str (signOf 77 (onceN (tCode k a) (onceL (tSum b) (onceL (tSum a) ([] : List Thing))))))) rfl (fun _ hw => r_assign rfl) ⟨S197.le, fun h => by cases h⟩ ?_
            refine EJ_float 13 rfl (by kernel_rfl) (by kernel_rfl) (by kernel_rfl) rfl (.string (str (signOf 77 (onceN (tCode l b) (onceL (tCode k a) (onceL (tSum b) (onceL (tSum a) ([] : List Thing)))))))) rfl (fun _ hw => r_assign rfl) ⟨S197.le, fun h => by cases h⟩ ?_
            refine EJ_done (by kernel_rfl) ?_
            refine thn_n ?_
            exact ⟨v7o3_1, v7o4_1, v7o9_1, v7o10_1, I195, (by exact e144), (by exact e145), (by exact e146), (by exact e147), (by exact e148), (by exact e149), (by exact e150), (by exact e151), rfl, rfl, (Gh.le_trans (Gh.le_trans (Gh.le_trans le167 le177) le186) le196), (H169.up (Gh.le_trans (Gh.le_trans le177 le186) le196)), (H179.up (Gh.le_trans le186 le196)), (H188.up le196), H198, S197⟩
          · refine EL_lit1 (l := [(0, v1)]) w161.heap.size [v1] el_36 rfl (by decide) rfl (Nat.le_refl _) (parts1 rfl) (Eq.trans (show Instr.fill _ _ [(0, v1)] = _ from (fill_one rfl (row_cells (Q1 _ (Gh.le_trans (Gh.le_trans le14 le152) S165.le))) (by kernel_rfl) fill_end)) (by kernel_rfl)) ?_
            intro v7o9_1 w199 O200 B201 k202
            have S203 : Sat w199 I65 (OwnX 22 bytesR v7o9_1 [b] :: OwnX 22 bytesR v7o3_1 [a] :: Suite p27 (onceL (tSum b) (onceL (tSum a) ([] : List Thing))) :: R) := OwnX.cls (xss := [[v1]]) (.cons ⟨_, rfl, (row_one (Q1 _ (Gh.le_trans (Gh.le_trans le14 le152) S165.le))), (Q1.up (Gh.le_trans le14 le152))⟩ .nil) (S165.newO B201 O200)
            refine EL_nil ?_
            refine ⟨rfl, ⟨S203.le, fun h => trivial⟩, ?_⟩
            refine EJ_one 4 (by kernel_rfl) ⟨_, rfl, ?_⟩
            have oH207 := (OwnX.one S203 1 rfl (by decide))
            obtain ⟨I204, le205, S206, H207⟩ : ∃ J : Gh, Gh.le I65 J ∧ Sat w199 J (OwnX 22 bytesR v7o9_1 [b] :: Suite p27 (onceL (tSum b) (onceL (tSum a) ([] : List Thing))) :: R) ∧ RoX J v7o3_1 bytesR [a] := OwnX.frz S203 1 rfl (by decide)
            have S208 : Sat w199 I204 (Suite p27 (onceL (tSum b) (onceL (tSum a) ([] : List Thing))) :: OwnX 22 bytesR v7o9_1 [b] :: R) := S206.cons_front (i := 1) rfl
            refine EL_ret [p27, v2, v7o3_1] rfl Try.func13 rfl nm13 rfl (Code_c p27 (onceL (tSum b) (onceL (tSum a) ([] : List Thing))) v2 k v7o3_1 [a] I204 _ _ S208 (Q2.up (Gh.le_trans (Gh.le_trans le14 le152) le205)) H207 (Nat.le_trans (Nat.le_trans (onceL_len _ _) (Nat.succ_le_succ (Nat.le_trans (onceL_len _ _) (Nat.succ_le_succ (Nat.le_refl 0))))) (by decide)) (by first | assumption | omega | (simp; done) | (simp; omega)) (by simp; omega)) ?_
            rintro _ w209 ⟨v7o4_1, rfl, S210⟩
            have q212 : signOf 77 (onceN (tCode k [a].flatten) (onceL (tSum b) (onceL (tSum a) ([] : List Thing)))) = signOf 77 (onceN (tCode k a) (onceL (tSum b) (onceL (tSum a) ([] : List Thing)))) := by simp only [List.flatten_cons, List.flatten_nil, List.append_nil]
            have S211 : Sat w209 I204 (OwnB v7o4_1 (signOf 77 (onceN (tCode k a) (onceL (tSum b) (onceL (tSum a) ([] : List Thing))))) :: Suite p27 (onceL (tCode k [a].flatten) (onceL (tSum b) (onceL (tSum a) ([] : List Thing)))) :: OwnX 22 bytesR v7o9_1 [b] :: R) := by have := S210; rw [q212] at this; exact this
            have q214 : onceL (tCode k [a].flatten) (onceL (tSum b) (onceL (tSum a) ([] : List Thing))) = onceL (tCode k a) (onceL (tSum b) (onceL (tSum a) ([] : List Thing))) := by simp only [List.flatten_cons, List.flatten_nil, List.append_nil]
            have S213 : Sat w209 I204 (OwnB v7o4_1 (signOf 77 (onceN (tCode k a) (onceL (tSum b) (onceL (tSum a) ([] : List Thing))))) :: Suite p27 (onceL (tCode k a) (onceL (tSum b) (onceL (tSum a) ([] : List Thing)))) :: OwnX 22 bytesR v7o9_1 [b] :: R) := by have := S211; rw [q214] at this; exact this
            refine EL_nil ?_
            refine ⟨rfl, ⟨(Gh.le_trans le205 S213.le), fun h => trivial⟩, ?_⟩
            refine EJ_strong (fun w' => Gh.le I204 (gh w')) _ (fun w' hw => Gh.le_trans le205 hw) (fun w' _ ht => ht) ?_
            obtain ⟨I215, le216, S217, H218⟩ : ∃ J : Gh, Gh.le I204 J ∧ Sat w209 J (Suite p27 (onceL (tCode k a) (onceL (tSum b) (onceL (tSum a) ([] : List Thing)))) :: OwnX 22 bytesR v7o9_1 [b] :: R) ∧ Ro J v7o4_1 ((signOf 77 (onceN (tCode k a) (onceL (tSum b) (onceL (tSum a) ([] : List Thing))))).map byt) := S213.frz 0 rfl
            refine EJ_strong (fun w' => Gh.le I215 (gh w')) _ (fun w' hw => Gh.le_trans le216 hw) (fun w' _ ht => ht) ?_
            refine EJ_float 5 rfl (by kernel_rfl) (by kernel_rfl) (by kernel_rfl) rfl (.string (str (signOf 77 (onceN (tCode k a) (onceL (tSum b) (onceL (tSum a) ([] : List Thing))))))) rfl (fun _ hw => r_str rfl (H218 _ hw) Try.underlying22 Try.underlying5 Try.underlying9) ⟨S217.le, fun h => trivial⟩ ?_
            refine EJ_one 10 (by kernel_rfl) ⟨_, rfl, ?_⟩
            have oH222 := (OwnX.one S217 1 rfl (by decide))
            obtain ⟨I219, le220, S221, H222⟩ : ∃ J : Gh, Gh.le I215 J ∧ Sat w209 J (Suite p27 (onceL (tCode k a) (onceL (tSum b) (onceL (tSum a) ([] : List Thing)))) :: R) ∧ RoX J v7o9_1 bytesR [b] := OwnX.frz S217 1 rfl (by decide)
            refine EL_ret [p27, v3, v7o9_1] rfl Try.func13 rfl nm13 rfl (Code_c p27 (onceL (tCode k a) (onceL (tSum b) (onceL (tSum a) ([] : List Thing)))) v3 l v7o9_1 [b] I219 _ _ S221 (Q3.up (Gh.le_trans (Gh.le_trans (Gh.le_trans (Gh.le_trans le14 le152) le205) le216) le220)) H222 (Nat.le_trans (Nat.le_trans (onceL_len _ _) (Nat.succ_le_succ (Nat.le_trans (onceL_len _ _) (Nat.succ_le_succ (Nat.le_trans (onceL_len _ _) (Nat.succ_le_succ (Nat.le_refl 0))))))) (by decide)) (by first | assumption | omega | (simp; done) | (simp; omega)) (by simp; omega)) ?_
            rintro _ w223 ⟨v7o10_1, rfl, S224⟩
            have q226 : signOf 77 (onceN (tCode l [b].flatten) (onceL (tCode k a) (onceL (tSum b) (onceL (tSum a) ([] : List Thing))))) = signOf 77 (onceN (tCode l b) (onceL (tCode k a) (onceL (tSum b) (onceL (tSum a) ([] : List Thing))))) := by simp only [List.flatten_cons, List.flatten_nil, List.append_nil]
            have S225 : Sat w223 I219 (OwnB v7o10_1 (signOf 77 (onceN (tCode l b) (onceL (tCode k a) (onceL (tSum b) (onceL (tSum a) ([] : List Thing)))))) :: Suite p27 (onceL (tCode l [b].flatten) (onceL (tCode k a) (onceL (tSum b) (onceL (tSum a) ([] : List Thing))))) :: R) := by have := S224; rw [q226] at this; exact this
            have q228 : onceL (tCode l [b].flatten) (onceL (tCode k a) (onceL (tSum b) (onceL (tSum a) ([] : List Thing)))) = onceL (tCode l b) (onceL (tCode k a) (onceL (tSum b) (onceL (tSum a) ([] : List Thing)))) := by simp only [List.flatten_cons, List.flatten_nil, List.append_nil]
            have S227 : Sat w223 I219 (OwnB v7o10_1 (signOf 77 (onceN (tCode l b) (onceL (tCode k a) (onceL (tSum b) (onceL (tSum a) ([] : List Thing)))))) :: Suite p27 (onceL (tCode l b) (onceL (tCode k a) (onceL (tSum b) (onceL (tSum a) ([] : List Thing))))) :: R) := by have := S225; rw [q228] at this; exact this
            refine EL_nil ?_
            refine ⟨rfl, ⟨(Gh.le_trans le220 S227.le), fun h => by cases h⟩, ?_⟩
            refine EJ_strong (fun w' => Gh.le I219 (gh w')) _ (fun w' hw => Gh.le_trans le220 hw) (fun w' _ ht => ht) ?_
            obtain ⟨I229, le230, S231, H232⟩ : ∃ J : Gh, Gh.le I219 J ∧ Sat w223 J (Suite p27 (onceL (tCode l b) (onceL (tCode k a) (onceL (tSum b) (onceL (tSum a) ([] : List Thing))))) :: R) ∧ Ro J v7o10_1 ((signOf 77 (onceN (tCode l b) (onceL (tCode k a) (onceL (tSum b) (onceL (tSum a) ([] : List Thing)))))).map byt) := S227.frz 0 rfl
            refine EJ_strong (fun w' => Gh.le I229 (gh w')) _ (fun w' hw => Gh.le_trans le230 hw) (fun w' _ ht => ht) ?_
            refine EJ_float 11 rfl (by kernel_rfl) (by kernel_rfl) (by kernel_rfl) rfl (.string (str (signOf 77 (onceN (tCode l b) (onceL (tCode k a) (onceL (tSum b) (onceL (tSum a) ([] : List Thing)))))))) rfl (fun _ hw => r_str rfl (H232 _ hw) Try.underlying22 Try.underlying5 Try.underlying9) ⟨S231.le, fun h => by cases h⟩ ?_
            refine EJ_float 12 rfl (by kernel_rfl) (by kernel_rfl) (by kernel_rfl) rfl (.string (str (signOf 77 (onceN (tCode k a) (onceL (tSum b) (onceL (tSum a) ([] : List Thing))))))) rfl (fun _ hw => r_assign rfl) ⟨S231.le, fun h => by cases h⟩ ?_
            refine EJ_float 13 rfl (by kernel_rfl) (by kernel_rfl) (by kernel_rfl) rfl (.string (str (signOf 77 (onceN (tCode l b) (onceL (tCode k a) (onceL (tSum b) (onceL (tSum a) ([] : List Thing)))))))) rfl (fun _ hw => r_assign rfl) ⟨S231.le, fun h => by cases h⟩ ?_
            refine EJ_done (by kernel_rfl) ?_
            refine thn_n ?_
            exact ⟨v7o3_1, v7o4_1, v7o9_1, v7o10_1, I229, (by exact e144), (by exact e145), (by exact e146), (by exact e147), (by exact e148), (by exact e149), (by exact e150), (by exact e151), rfl, rfl, (Gh.le_trans (Gh.le_trans (Gh.le_trans le205 le216) le220) le230), (H207.up (Gh.le_trans (Gh.le_trans le216 le220) le230)), (H218.up (Gh.le_trans le220 le230)), (H222.up le230), H232, S231⟩
        · refine EL_lit1 (l := [(0, v1)]) w158.heap.size [v1] el_36 rfl (by decide) rfl (Nat.le_refl _) (parts1 rfl) (Eq.trans (show Instr.fill _ _ [(0, v1)] = _ from (fill_one rfl (row_cells (Q1 _ (Gh.le_trans (Gh.le_trans le14 le152) S160.le))) (by kernel_rfl) fill_end)) (by kernel_rfl)) ?_
          intro v7o9_1 w233 O234 B235 k236
          have S237 : Sat w233 I65 (OwnX 22 bytesR v7o9_1 [b] :: Suite p27 (onceL (tSum b) (onceL (tSum a) ([] : List Thing))) :: R) := OwnX.cls (xss := [[v1]]) (.cons ⟨_, rfl, (row_one (Q1 _ (Gh.le_trans (Gh.le_trans le14 le152) S160.le))), (Q1.up (Gh.le_trans le14 le152))⟩ .nil) (S160.newO B235 O234)
          refine EL_nil ?_
          refine ⟨rfl, ⟨S237.le, fun h => trivial⟩, ?_⟩
          refine EJ_one 3 (by kernel_rfl) ⟨_, rfl, ?_⟩
          refine EL_lit1 (l := [(0, v0)]) w233.heap.size [v0] el_36 rfl (by decide) rfl (Nat.le_refl _) (parts1 rfl) (Eq.trans (show Instr.fill _ _ [(0, v0)] = _ from (fill_one rfl (row_cells (Q0 _ (Gh.le_trans (Gh.le_trans le14 le152) S237.le))) (by kernel_rfl) fill_end)) (by kernel_rfl)) ?_
          intro v7o3_1 w238 O239 B240 k241
          have S242 : Sat w238 I65 (OwnX 22 bytesR v7o3_1 [a] :: OwnX 22 bytesR v7o9_1 [b] :: Suite p27 (onceL (tSum b) (onceL (tSum a) ([] : List Thing))) :: R) := OwnX.cls (xss := [[v0]]) (.cons ⟨_, rfl, (row_one (Q0 _ (Gh.le_trans (Gh.le_trans le14 le152) S237.le))), (Q0.up (Gh.le_trans le14 le152))⟩ .nil) (S237.newO B240 O239)
          refine EL_nil ?_
          refine ⟨rfl, ⟨S242.le, fun h => trivial⟩, ?_⟩
          refine EJ_one 4 (by kernel_rfl) ⟨_, rfl, ?_⟩
          have oH246 := (OwnX.one S242 0 rfl (by decide))
          obtain ⟨I243, le244, S245, H246⟩ : ∃ J : Gh, Gh.le I65 J ∧ Sat w238 J (OwnX 22 bytesR v7o9_1 [b] :: Suite p27 (onceL (tSum b) (onceL (tSum a) ([] : List Thing))) :: R) ∧ RoX J v7o3_1 bytesR [a] := OwnX.frz S242 0 rfl (by decide)
          have S247 : Sat w238 I243 (Suite p27 (onceL (tSum b) (onceL (tSum a) ([] : List Thing))) :: OwnX 22 bytesR v7o9_1 [b] :: R) := S245.cons_front (i := 1) rfl
          refine EL_ret [p27, v2, v7o3_1] rfl Try.func13 rfl nm13 rfl (Code_c p27 (onceL (tSum b) (onceL (tSum a) ([] : List Thing))) v2 k v7o3_1 [a] I243 _ _ S247 (Q2.up (Gh.le_trans (Gh.le_trans le14 le152) le244)) H246 (Nat.le_trans (Nat.le_trans (onceL_len _ _) (Nat.succ_le_succ (Nat.le_trans (onceL_len _ _) (Nat.succ_le_succ (Nat.le_refl 0))))) (by decide)) (by first | assumption | omega | (simp; done) | (simp; omega)) (by simp; omega)) ?_
          rintro _ w248 ⟨v7o4_1, rfl, S249⟩
          have q251 : signOf 77 (onceN (tCode k [a].flatten) (onceL (tSum b) (onceL (tSum a) ([] : List Thing)))) = signOf 77 (onceN (tCode k a) (onceL (tSum b) (onceL (tSum a) ([] : List Thing)))) := by simp only [List.flatten_cons, List.flatten_nil, List.append_nil]
          have S250 : Sat w248 I243 (OwnB v7o4_1 (signOf 77 (onceN (tCode k a) (onceL (tSum b) (onceL (tSum a) ([] : List Thing))))) :: Suite p27 (onceL (tCode k [a].flatten) (onceL (tSum b) (onceL (tSum a) ([] : List Thing)))) :: OwnX 22 bytesR v7o9_1 [b] :: R) := by have := S249; rw [q251] at this; exact this
          have q253 : onceL (tCode k [a].flatten) (onceL (tSum b) (onceL (tSum a) ([] : List Thing))) = onceL (tCode k a) (onceL (tSum b) (onceL (tSum a) ([] : List Thing))) := by simp only [List.flatten_cons, List.flatten_nil, List.append_nil]
          have S252 : Sat w248 I243 (OwnB v7o4_1 (signOf 77 (onceN (tCode k a) (onceL (tSum b) (onceL (tSum a) ([] : List Thing))))) :: Suite p27 (onceL (tCode k a) (onceL (tSum b) (onceL (tSum a) ([] : List Thing)))) :: OwnX 22 bytesR v7o9_1 [b] :: R) := by have := S250; rw [q253] at this; exact this
          refine EL_nil ?_
          refine ⟨rfl, ⟨(Gh.le_trans le244 S252.le), fun h => trivial⟩, ?_⟩
          refine EJ_strong (fun w' => Gh.le I243 (gh w')) _ (fun w' hw => Gh.le_trans le244 hw) (fun w' _ ht => ht) ?_
          obtain ⟨I254, le255, S256, H257⟩ : ∃ J : Gh, Gh.le I243 J ∧ Sat w248 J (Suite p27 (onceL (tCode k a) (onceL (tSum b) (onceL (tSum a) ([] : List Thing)))) :: OwnX 22 bytesR v7o9_1 [b] :: R) ∧ Ro J v7o4_1 ((signOf 77 (onceN (tCode k a) (onceL (tSum b) (onceL (tSum a) ([] : List Thing))))).map byt) := S252.frz 0 rfl
          refine EJ_strong (fun w' => Gh.le I254 (gh w')) _ (fun w' hw => Gh.le_trans le255 hw) (fun w' _ ht => ht) ?_
          refine EJ_float 5 rfl (by kernel_rfl) (by kernel_rfl) (by kernel_rfl) rfl (.string (str (signOf 77 (onceN (tCode k a) (onceL (tSum b) (onceL (tSum a) ([] : List Thing))))))) rfl (fun _ hw => r_str rfl (H257 _ hw) Try.underlying22 Try.underlying5 Try.underlying9) ⟨S256.le, fun h => trivial⟩ ?_
          refine EJ_one 10 (by kernel_rfl) ⟨_, rfl, ?_⟩
          have oH261 := (OwnX.one S256 1 rfl (by decide))
          obtain ⟨I258, le259, S260, H261⟩ : ∃ J : Gh, Gh.le I254 J ∧ Sat w248 J (Suite p27 (onceL (tCode k a) (onceL (tSum b) (onceL (tSum a) ([] : List Thing)))) :: R) ∧ RoX J v7o9_1 bytesR [b] := OwnX.frz S256 1 rfl (by decide)
          refine EL_ret [p27, v3, v7o9_1] rfl Try.func13 rfl nm13 rfl (Code_c p27 (onceL (tCode k a) (onceL (tSum b) (onceL (tSum a) ([] : List Thing)))) v3 l v7o9_1 [b] I258 _ _ S260 (Q3.up (Gh.le_trans (Gh.le_trans (Gh.le_trans (Gh.le_trans le14 le152) le244) le255) le259)) H261 (Nat.le_trans (Nat.le_trans (onceL_len _ _) (Nat.succ_le_succ (Nat.le_trans (onceL_len _ _) (Nat.succ_le_succ (Nat.le_trans (onceL_len _ _) (Nat.succ_le_succ (Nat.le_refl 0))))))) (by decide)) (by first | assumption | omega | (simp; done) | (simp; omega)) (by simp; omega)) ?_
          rintro _ w262 ⟨v7o10_1, rfl, S263⟩
          have q265 : signOf 77 (onceN (tCode l [b].flatten) (onceL (tCode k a) (onceL (tSum b) (onceL (tSum a) ([] : List Thing))))) = signOf 77 (onceN (tCode l b) (onceL (tCode k a) (onceL (tSum b) (onceL (tSum a) ([] : List Thing))))) := by simp only [List.flatten_cons, List.flatten_nil, List.append_nil]
          have S264 : Sat w262 I258 (OwnB v7o10_1 (signOf 77 (onceN (tCode l b) (onceL (tCode k a) (onceL (tSum b) (onceL (tSum a) ([] : List Thing)))))) :: Suite p27 (onceL (tCode l [b].flatten) (onceL (tCode k a) (onceL (tSum b) (onceL (tSum a) ([] : List Thing))))) :: R) := by have := S263; rw [q265] at this; exact this
          have q267 : onceL (tCode l [b].flatten) (onceL (tCode k a) (onceL (tSum b) (onceL (tSum a) ([] : List Thing)))) = onceL (tCode l b) (onceL (tCode k a) (onceL (tSum b) (onceL (tSum a) ([] : List Thing)))) := by simp only [List.flatten_cons, List.flatten_nil, List.append_nil]
          have S266 : Sat w262 I258 (OwnB v7o10_1 (signOf 77 (onceN (tCode l b) (onceL (tCode k a) (onceL (tSum b) (onceL (tSum a) ([] : List Thing)))))) :: Suite p27 (onceL (tCode l b) (onceL (tCode k a) (onceL (tSum b) (onceL (tSum a) ([] : List Thing))))) :: R) := by have := S264; rw [q267] at this; exact this
          refine EL_nil ?_
          refine ⟨rfl, ⟨(Gh.le_trans le259 S266.le), fun h => by cases h⟩, ?_⟩
          refine EJ_strong (fun w' => Gh.le I258 (gh w')) _ (fun w' hw => Gh.le_trans le259 hw) (fun w' _ ht => ht) ?_
          obtain ⟨I268, le269, S270, H271⟩ : ∃ J : Gh, Gh.le I258 J ∧ Sat w262 J (Suite p27 (onceL (tCode l b) (onceL (tCode k a) (onceL (tSum b) (onceL (tSum a) ([] : List Thing))))) :: R) ∧ Ro J v7o10_1 ((signOf 77 (onceN (tCode l b) (onceL (tCode k a) (onceL (tSum b) (onceL (tSum a) ([] : List Thing)))))).map byt) := S266.frz 0 rfl
          refine EJ_strong (fun w' => Gh.le I268 (gh w')) _ (fun w' hw => Gh.le_trans le269 hw) (fun w' _ ht => ht) ?_
          refine EJ_float 11 rfl (by kernel_rfl) (by kernel_rfl) (by kernel_rfl) rfl (.string (str (signOf 77 (onceN (tCode l b) (onceL (tCode k a) (onceL (tSum b) (onceL (tSum a) ([] : List Thing)))))))) rfl (fun _ hw => r_str rfl (H271 _ hw) Try.underlying22 Try.underlying5 Try.underlying9) ⟨S270.le, fun h => by cases h⟩ ?_
          refine EJ_float 12 rfl (by kernel_rfl) (by kernel_rfl) (by kernel_rfl) rfl (.string (str (signOf 77 (onceN (tCode k a) (onceL (tSum b) (onceL (tSum a) ([] : List Thing))))))) rfl (fun _ hw => r_assign rfl) ⟨S270.le, fun h => by cases h⟩ ?_
          refine EJ_float 13 rfl (by kernel_rfl) (by kernel_rfl) (by kernel_rfl) rfl (.string (str (signOf 77 (onceN (tCode l b) (onceL (tCode k a) (onceL (tSum b) (onceL (tSum a) ([] : List Thing)))))))) rfl (fun _ hw => r_assign rfl) ⟨S270.le, fun h => by cases h⟩ ?_
          refine EJ_done (by kernel_rfl) ?_
          refine thn_n ?_
          exact ⟨v7o3_1, v7o4_1, v7o9_1, v7o10_1, I268, (by exact e144), (by exact e145), (by exact e146), (by exact e147), (by exact e148), (by exact e149), (by exact e150), (by exact e151), rfl, rfl, (Gh.le_trans (Gh.le_trans (Gh.le_trans le244 le255) le259) le269), (H246.up (Gh.le_trans (Gh.le_trans le255 le259) le269)), (H257.up (Gh.le_trans le259 le269)), (H261.up le269), H271, S270⟩
      · rintro E272 w273 ⟨v7o3_1, v7o4_1, v7o9_1, v7o10_1, I195, e274, e275, e276, e277, e278, e279, e280, e281, e282, e283, le284, H285, H286, H287, H288, S289⟩
        refine EC_seq ?_
        refine EC_any 4 (fun w' => Gh.le I195 (gh w')) (fun w' => True) (by kernel_rfl) ?_
        intro w290 B291
        have S292 : Sat w290 I195 (Suite p27 (onceL (tCode l b) (onceL (tCode k a) (onceL (tSum b) (onceL (tSum a) ([] : List Thing))))) :: R) := S289.below B291
        refine EJ_take 0 rfl (by kernel_rfl) (by kernel_rfl) (by kernel_rfl) rfl (by kernel_rfl) p27 rfl (fun _ hw ht => r_move (by exact e279)) ⟨S292.le, fun h => trivial⟩ ?_
        refine EJ_take 3 rfl (by kernel_rfl) (by kernel_rfl) (by kernel_rfl) rfl (by kernel_rfl) p27 rfl (fun _ hw ht => r_move (by exact e279)) ⟨S292.le, fun h => trivial⟩ ?_
        refine EJ_one 1 (by kernel_rfl) ⟨_, rfl, ?_⟩
        refine EL_ret [p27] rfl Try.func14 rfl nm14 rfl (Key_c p27 (onceL (tCode l b) (onceL (tCode k a) (onceL (tSum b) (onceL (tSum a) ([] : List Thing))))) I195 _ _ S292 (Nat.le_trans (Nat.le_trans (onceL_len _ _) (Nat.succ_le_succ (Nat.le_trans (onceL_len _ _) (Nat.succ_le_succ (Nat.le_trans (onceL_len _ _) (Nat.succ_le_succ (Nat.le_trans (onceL_len _ _) (Nat.succ_le_succ (Nat.le_refl 0))))))))) (by decide))) ?_
        rintro _ w293 ⟨v295, rfl, S294⟩
        refine EL_nil ?_
        refine ⟨rfl, ⟨S294.le, fun h => trivial⟩, ?_⟩
        obtain ⟨I296, le297, S298, H299⟩ : ∃ J : Gh, Gh.le I195 J ∧ Sat w293 J (Suite p27 ((onceL (tCode l b) (onceL (tCode k a) (onceL (tSum b) (onceL (tSum a) ([] : List Thing))))) ++ [tKey]) :: R) ∧ Ro J v295 ((signOf 75 (((onceL (tCode l b) (onceL (tCode k a) (onceL (tSum b) (onceL (tSum a) ([] : List Thing))))).length : Int) + 1)).map byt) := S294.frz 0 rfl
        refine EJ_strong (fun w' => Gh.le I296 (gh w')) _ (fun w' hw => Gh.le_trans le297 hw) (fun w' _ ht => ht) ?_
        refine EJ_float 2 rfl (by kernel_rfl) (by kernel_rfl) (by kernel_rfl) rfl (.string (str (signOf 75 (((onceL (tCode l b) (onceL (tCode k a) (onceL (tSum b) (onceL (tSum a) ([] : List Thing))))).length : Int) + 1)))) rfl (fun _ hw => r_str rfl (H299 _ hw) Try.underlying22 Try.underlying5 Try.underlying9) ⟨S298.le, fun h => trivial⟩ ?_
        refine EJ_one 4 (by kernel_rfl) ⟨_, rfl, ?_⟩
        refine EL_ret [p27] rfl Try.func14 rfl nm14 rfl (Key_c p27 ((onceL (tCode l b) (onceL (tCode k a) (onceL (tSum b) (onceL (tSum a) ([] : List Thing))))) ++ [tKey]) I296 _ _ S298 (Nat.le_trans (Nat.le_trans (Nat.le_of_eq (List.length_append ..)) (Nat.succ_le_succ (Nat.le_trans (onceL_len _ _) (Nat.succ_le_succ (Nat.le_trans (onceL_len _ _) (Nat.succ_le_succ (Nat.le_trans (onceL_len _ _) (Nat.succ_le_succ (Nat.le_trans (onceL_len _ _) (Nat.succ_le_succ (Nat.le_refl 0))))))))))) (by decide))) ?_
        rintro _ w300 ⟨v302, rfl, S301⟩
        refine EL_nil ?_
        refine ⟨rfl, ⟨S301.le, fun h => by cases h⟩, ?_⟩
        obtain ⟨I303, le304, S305, H306⟩ : ∃ J : Gh, Gh.le I296 J ∧ Sat w300 J (Suite p27 (((onceL (tCode l b) (onceL (tCode k a) (onceL (tSum b) (onceL (tSum a) ([] : List Thing))))) ++ [tKey]) ++ [tKey]) :: R) ∧ Ro J v302 ((signOf 75 ((((onceL (tCode l b) (onceL (tCode k a) (onceL (tSum b) (onceL (tSum a) ([] : List Thing))))) ++ [tKey]).length : Int) + 1)).map byt) := S301.frz 0 rfl
        refine EJ_strong (fun w' => Gh.le I303 (gh w')) _ (fun w' hw => Gh.le_trans le304 hw) (fun w' _ ht => ht) ?_
        refine EJ_float 5 rfl (by kernel_rfl) (by kernel_rfl) (by kernel_rfl) rfl (.string (str (signOf 75 ((((onceL (tCode l b) (onceL (tCode k a) (onceL (tSum b) (onceL (tSum a) ([] : List Thing))))) ++ [tKey]).length : Int) + 1)))) rfl (fun _ hw => r_str rfl (H306 _ hw) Try.underlying22 Try.underlying5 Try.underlying9) ⟨S305.le, fun h => by cases h⟩ ?_
        refine EJ_float 6 rfl (by kernel_rfl) (by kernel_rfl) (by kernel_rfl) rfl (.string (str (signOf 75 (((onceL (tCode l b) (onceL (tCode k a) (onceL (tSum b) (onceL (tSum a) ([] : List Thing))))).length : Int) + 1)))) rfl (fun _ hw => r_assign rfl) ⟨S305.le, fun h => by cases h⟩ ?_
        refine EJ_float 7 rfl (by kernel_rfl) (by kernel_rfl) (by kernel_rfl) rfl (.string (str (signOf 75 ((((onceL (tCode l b) (onceL (tCode k a) (onceL (tSum b) (onceL (tSum a) ([] : List Thing))))) ++ [tKey]).length : Int) + 1)))) rfl (fun _ hw => r_assign rfl) ⟨S305.le, fun h => by cases h⟩ ?_
        refine EJ_done (by kernel_rfl) ?_
        refine thn_n ?_
        refine EC_seq ?_
        refine EC_reg ?_
        refine EL_val (.string (str (signOf 72 (onceN (tSum a) ([] : List Thing))))) w300 rfl (r_move (by exact e280)) ?_
        refine EL_val (.string (str (signOf 72 (onceN (tSum b) (onceL (tSum a) ([] : List Thing)))))) w300 rfl (r_move (by exact e281)) ?_
        refine EL_val (.bool (decide ((signOf 72 (onceN (tSum a) ([] : List Thing))) = (signOf 72 (onceN (tSum b) (onceL (tSum a) ([] : List Thing))))))) w300 rfl (r_eqls rfl rfl) ?_
        refine EL_val v0 w300 rfl (r_move (by exact e274)) ?_
        refine EL_val (.string (str a)) w300 rfl (r_str rfl (Q0 _ (Gh.le_trans (Gh.le_trans (Gh.le_trans (Gh.le_trans (Gh.le_trans le14 le152) le284) le297) le304) S305.le)) Try.underlying22 Try.underlying5 Try.underlying9) ?_
        refine EL_val v1 w300 rfl (r_move (by exact e275)) ?_
        refine EL_val (.string (str b)) w300 rfl (r_str rfl (Q1 _ (Gh.le_trans (Gh.le_trans (Gh.le_trans (Gh.le_trans (Gh.le_trans le14 le152) le284) le297) le304) S305.le)) Try.underlying22 Try.underlying5 Try.underlying9) ?_
        refine EL_val (.bool (decide (a = b))) w300 rfl (r_eqls rfl rfl) ?_
        refine EL_val (.bool true) w300 rfl (r_dec (show ((decide ((signOf 72 (onceN (tSum a) ([] : List Thing))) = (signOf 72 (onceN (tSum b) (onceL (tSum a) ([] : List Thing)))))) == (decide (a = b))) = true from sum_eqb (Nat.le_trans (onceL_len _ _) (Nat.succ_le_succ (Nat.le_refl 0))) (by decide)) (r_eqlb rfl rfl Try.underlying4)) ?_
        refine EL_val (.bool true) w300 rfl (r_move rfl) ?_
        refine EL_gval 74 rfl rfl rfl rfl (.string (str (signOf 77 (onceN (tCode k a) (onceL (tSum b) (onceL (tSum a) ([] : List Thing))))))) w300 rfl (r_move (by exact e282)) ?_
        refine EL_gval 74 rfl rfl rfl rfl (.string (str (signOf 77 (onceN (tCode l b) (onceL (tCode k a) (onceL (tSum b) (onceL (tSum a) ([] : List Thing)))))))) w300 rfl (r_move (by exact e283)) ?_
        refine EL_gval 74 rfl rfl rfl rfl (.bool (decide ((signOf 77 (onceN (tCode k a) (onceL (tSum b) (onceL (tSum a) ([] : List Thing))))) = (signOf 77 (onceN (tCode l b) (onceL (tCode k a) (onceL (tSum b) (onceL (tSum a) ([] : List Thing))))))))) w300 rfl (r_eqls rfl rfl) ?_
        refine EL_gval 74 rfl rfl rfl rfl v0 w300 rfl (r_move (by exact e274)) ?_
        refine EL_gval 74 rfl rfl rfl rfl (.string (str a)) w300 rfl (r_str rfl (Q0 _ (Gh.le_trans (Gh.le_trans (Gh.le_trans (Gh.le_trans (Gh.le_trans le14 le152) le284) le297) le304) S305.le)) Try.underlying22 Try.underlying5 Try.underlying9) ?_
        refine EL_gval 74 rfl rfl rfl rfl v1 w300 rfl (r_move (by exact e275)) ?_
        refine EL_gval 74 rfl rfl rfl rfl (.string (str b)) w300 rfl (r_str rfl (Q1 _ (Gh.le_trans (Gh.le_trans (Gh.le_trans (Gh.le_trans (Gh.le_trans le14 le152) le284) le297) le304) S305.le)) Try.underlying22 Try.underlying5 Try.underlying9) ?_
        refine EL_gval 74 rfl rfl rfl rfl (.bool (decide (a = b))) w300 rfl (r_eqls rfl rfl) ?_
        refine EL_gval 74 rfl rfl rfl rfl (.bool (decide (a = b))) w300 rfl (r_move rfl) ?_
        refine EL_gite 83 rfl rfl rfl v2 rfl (fun g307 => r_move (by exact e276)) ?_
        refine EL_gite 83 rfl rfl rfl (.string (str k)) rfl (fun g308 => r_str (cond_of g308 rfl) (Q2 _ (Gh.le_trans (Gh.le_trans (Gh.le_trans (Gh.le_trans (Gh.le_trans le14 le152) le284) le297) le304) S305.le)) Try.underlying22 Try.underlying5 Try.underlying9) ?_
        refine EL_gite 83 rfl rfl rfl v3 rfl (fun g309 => r_move (by exact e277)) ?_
        refine EL_gite 83 rfl rfl rfl (.string (str l)) rfl (fun g310 => r_str (cond_of g310 rfl) (Q3 _ (Gh.le_trans (Gh.le_trans (Gh.le_trans (Gh.le_trans (Gh.le_trans le14 le152) le284) le297) le304) S305.le)) Try.underlying22 Try.underlying5 Try.underlying9) ?_
        refine EL_gite 83 rfl rfl rfl (.bool (decide (k = l))) rfl (fun g311 => r_eqls (cond_of g311 rfl) (cond_of g311 rfl)) ?_
        refine EL_gval 74 rfl rfl rfl rfl (.bool ((decide (a = b)) && (decide (k = l)))) w300 rfl (r_and rfl rfl rfl) ?_
        refine EL_gval 74 rfl rfl rfl rfl (.bool true) w300 rfl (r_dec (show ((decide ((signOf 77 (onceN (tCode k a) (onceL (tSum b) (onceL (tSum a) ([] : List Thing))))) = (signOf 77 (onceN (tCode l b) (onceL (tCode k a) (onceL (tSum b) (onceL (tSum a) ([] : List Thing)))))))) == ((decide (a = b)) && (decide (k = l)))) = true from code_eqb (Nat.le_trans (onceL_len _ _) (Nat.succ_le_succ (Nat.le_trans (onceL_len _ _) (Nat.succ_le_succ (Nat.le_trans (onceL_len _ _) (Nat.succ_le_succ (Nat.le_refl 0))))))) (by decide)) (r_eqlb rfl rfl Try.underlying4)) ?_
        refine EL_val (.bool true) w300 rfl (r_pickT rfl rfl) ?_
        refine EL_val (.bool true) w300 rfl (r_move rfl) ?_
        refine EL_gval 92 rfl rfl rfl rfl (.string (str (signOf 72 (onceN (tSum a) ([] : List Thing))))) w300 rfl (r_move (by exact e280)) ?_
        refine EL_gval 92 rfl rfl rfl rfl (.string (str (signOf 77 (onceN (tCode k a) (onceL (tSum b) (onceL (tSum a) ([] : List Thing))))))) w300 rfl (r_move (by exact e282)) ?_
        refine EL_gval 92 rfl rfl rfl rfl (.bool true) w300 rfl (r_dec (show (decide ((signOf 72 (onceN (tSum a) ([] : List Thing))) ≠ (signOf 77 (onceN (tCode k a) (onceL (tSum b) (onceL (tSum a) ([] : List Thing))))))) = true from decide_eq_true (sign_ne (by decide))) (r_neqs rfl rfl)) ?_
        refine EL_val (.bool true) w300 rfl (r_pickT rfl rfl) ?_
        refine EL_val (.bool true) w300 rfl (r_move rfl) ?_
        refine EL_gval 97 rfl rfl rfl rfl (.string (str (signOf 72 (onceN (tSum a) ([] : List Thing))))) w300 rfl (r_move (by exact e280)) ?_
        refine EL_gval 97 rfl rfl rfl rfl (.string (str (signOf 77 (onceN (tCode l b) (onceL (tCode k a) (onceL (tSum b) (onceL (tSum a) ([] : List Thing)))))))) w300 rfl (r_move (by exact e283)) ?_
        refine EL_gval 97 rfl rfl rfl rfl (.bool true) w300 rfl (r_dec (show (decide ((signOf 72 (onceN (tSum a) ([] : List Thing))) ≠ (signOf 77 (onceN (tCode l b) (onceL (tCode k a) (onceL (tSum b) (onceL (tSum a) ([] : List Thing)))))))) = true from decide_eq_true (sign_ne (by decide))) (r_neqs rfl rfl)) ?_
        refine EL_val (.bool true) w300 rfl (r_pickT rfl rfl) ?_
        refine EL_val (.bool true) w300 rfl (r_move rfl) ?_
        refine EL_gval 102 rfl rfl rfl rfl (.string (str (signOf 72 (onceN (tSum b) (onceL (tSum a) ([] : List Thing)))))) w300 rfl (r_move (by exact e281)) ?_
        refine EL_gval 102 rfl rfl rfl rfl (.string (str (signOf 77 (onceN (tCode k a) (onceL (tSum b) (onceL (tSum a) ([] : List Thing))))))) w300 rfl (r_move (by exact e282)) ?_
        refine EL_gval 102 rfl rfl rfl rfl (.bool true) w300 rfl (r_dec (show (decide ((signOf 72 (onceN (tSum b) (onceL (tSum a) ([] : List Thing)))) ≠ (signOf 77 (onceN (tCode k a) (onceL (tSum b) (onceL (tSum a) ([] : List Thing))))))) = true from decide_eq_true (sign_ne (by decide))) (r_neqs rfl rfl)) ?_
        refine EL_val (.bool true) w300 rfl (r_pickT rfl rfl) ?_
        refine EL_val (.bool true) w300 rfl (r_move rfl) ?_
        refine EL_gval 107 rfl rfl rfl rfl (.string (str (signOf 75 (((onceL (tCode l b) (onceL (tCode k a) (onceL (tSum b) (onceL (tSum a) ([] : List Thing))))).length : Int) + 1)))) w300 rfl (r_move rfl) ?_
        refine EL_gval 107 rfl rfl rfl rfl (.string (str (signOf 75 ((((onceL (tCode l b) (onceL (tCode k a) (onceL (tSum b) (onceL (tSum a) ([] : List Thing))))) ++ [tKey]).length : Int) + 1)))) w300 rfl (r_move rfl) ?_
        refine EL_gval 107 rfl rfl rfl rfl (.bool true) w300 rfl (r_dec (show (decide ((signOf 75 (((onceL (tCode l b) (onceL (tCode k a) (onceL (tSum b) (onceL (tSum a) ([] : List Thing))))).length : Int) + 1)) ≠ (signOf 75 ((((onceL (tCode l b) (onceL (tCode k a) (onceL (tSum b) (onceL (tSum a) ([] : List Thing))))) ++ [tKey]).length : Int) + 1)))) = true from keys_ne (Nat.le_trans (onceL_len _ _) (Nat.succ_le_succ (Nat.le_trans (onceL_len _ _) (Nat.succ_le_succ (Nat.le_trans (onceL_len _ _) (Nat.succ_le_succ (Nat.le_trans (onceL_len _ _) (Nat.succ_le_succ (Nat.le_refl 0))))))))) (by decide)) (r_neqs rfl rfl)) ?_
        refine EL_val (.bool true) w300 rfl (r_pickT rfl rfl) ?_
        refine EL_val (.bool true) w300 rfl (r_move rfl) ?_
        refine EL_gval 112 rfl rfl rfl rfl (.string (str (signOf 75 (((onceL (tCode l b) (onceL (tCode k a) (onceL (tSum b) (onceL (tSum a) ([] : List Thing))))).length : Int) + 1)))) w300 rfl (r_move rfl) ?_
        refine EL_gval 112 rfl rfl rfl rfl (.string (str (signOf 72 (onceN (tSum a) ([] : List Thing))))) w300 rfl (r_move (by exact e280)) ?_
        refine EL_gval 112 rfl rfl rfl rfl (.bool true) w300 rfl (r_dec (show (decide ((signOf 75 (((onceL (tCode l b) (onceL (tCode k a) (onceL (tSum b) (onceL (tSum a) ([] : List Thing))))).length : Int) + 1)) ≠ (signOf 72 (onceN (tSum a) ([] : List Thing))))) = true from decide_eq_true (sign_ne (by decide))) (r_neqs rfl rfl)) ?_
        refine EL_val (.bool true) w300 rfl (r_pickT rfl rfl) ?_
        refine EL_val (.bool true) w300 rfl (r_move rfl) ?_
        refine EL_gval 117 rfl rfl rfl rfl (.string (str (signOf 75 (((onceL (tCode l b) (onceL (tCode k a) (onceL (tSum b) (onceL (tSum a) ([] : List Thing))))).length : Int) + 1)))) w300 rfl (r_move rfl) ?_
        refine EL_gval 117 rfl rfl rfl rfl (.string (str (signOf 77 (onceN (tCode k a) (onceL (tSum b) (onceL (tSum a) ([] : List Thing))))))) w300 rfl (r_move (by exact e282)) ?_
        refine EL_gval 117 rfl rfl rfl rfl (.bool true) w300 rfl (r_dec (show (decide ((signOf 75 (((onceL (tCode l b) (onceL (tCode k a) (onceL (tSum b) (onceL (tSum a) ([] : List Thing))))).length : Int) + 1)) ≠ (signOf 77 (onceN (tCode k a) (onceL (tSum b) (onceL (tSum a) ([] : List Thing))))))) = true from decide_eq_true (sign_ne (by decide))) (r_neqs rfl rfl)) ?_
        refine EL_val (.bool true) w300 rfl (r_pickT rfl rfl) ?_
        refine EL_val (.bool true) w300 rfl (r_assign rfl) ?_
        refine EL_nil ?_
        refine thn_n ?_
        refine EC_ret ?_
        refine fin1 Try.results3 (show _ = .bool true from rfl) ⟨_, rfl, ?_⟩
        have S312 : Sat w300 I303 (R) := S305.drop 0 rfl
        exact ⟨I303, (Gh.le_trans (Gh.le_trans (Gh.le_trans (Gh.le_trans le14 le152) le284) le297) le304), rfl, S312⟩
theorem SuiteApart_c (v0 : Value) (a : List UInt8) (v1 : Value) (b : List UInt8) (v2 : Value) (k : List UInt8) (v3 : Value) (l : List UInt8) (w : World) (H0 : Bs w v0 a) (H1 : Bs w v1 b) (H2 : Bs w v2 k) (H3 : Bs w v3 l) : Ret Try.prog 3 [v0, v1, v2, v3] w fun v w' => v = .bool true ∧ Below w.heap.size w w' :=
  (SuiteApart_w v0 a v1 b v2 k v3 l (gh w) [] w (Sat.start w) (Row.ro H0) (Row.ro H1) (Row.ro H2) (Row.ro H3)).mono fun v w' h => by obtain ⟨J, le, e, S⟩ := h; exact ⟨e.symm, S.fin le⟩
theorem own : ownKnob Try.prog.godebug = none := by kernel_rfl
theorem laidOut : laidOutB Try.prog = true := by kernel_rfl
set_option maxRecDepth 100000 in
theorem lifted (os : Os) (started : os.Started) (H : Type) (enc : TypeId × Value → H) :
    ReturnsInHanded {} Try.checked os 3 .any (Rows.suiteApartSpec.pre6 enc Try.prog Try.f3 Rows.suiteApartRow.domain false) (Rows.suiteApartSpec.post enc Try.prog Try.f3 false true false false) := by
  refine returnsInHanded_of_change (C := Try.checked) own started (by kernel_rfl) Try.func3
    (ChangeSpec.witness6 (enc := enc) (C := Try.checked) false ⟨#[], #[.slice none 0 0, .slice none 0 0, .slice none 0 0, .slice none 0 0], []⟩ 8 (by kernel_rfl) (by kernel_rfl) (by kernel_rfl) (by kernel_rfl)) ?_
  intro W base args ds gs before hval0 hW hcnd _
  have hval : ∀ (j : Nat) t v, Try.f3.params[j]? = some t → args[j]? = some v → Value.okWide Try.prog W .any base t v := hval0
  have hW' := hW
  obtain ⟨p, q, hA0, hV, rfl, hfz, hnd⟩ := hW
  have hA : DataW.TrodAll enc Try.prog W 0 (fun _ => true) true Try.f3.params.toList args.toList ds p := hA0
  rw [Try.params3] at hA hval
  obtain ⟨v0, vs0, d0, ds0, p0, q0, hargs, rfl, rfl, h0, r0⟩ := trodAll_cons hA
  obtain ⟨v1, vs1, d1, ds1, p1, q1, rfl, rfl, rfl, h1, r1⟩ := trodAll_cons r0
  obtain ⟨v2, vs2, d2, ds2, p2, q2, rfl, rfl, rfl, h2, r2⟩ := trodAll_cons r1
  obtain ⟨v3, vs3, d3, ds3, p3, q3, rfl, rfl, rfl, h3, r3⟩ := trodAll_cons r2
  obtain ⟨rfl, rfl, rfl⟩ := trodAll_nil r3
  obtain rfl : args = #[v0, v1, v2, v3] := by cases args; simp_all
  obtain ⟨rfl, rfl⟩ := trodVars_none hV
  have k0 := h0
  have lt0 : ∀ x ∈ p0, x.block < W.heap.size := by obtain ⟨m, hm⟩ := k0; exact DataW.trod_lt m _ _ _ hm
  obtain ⟨a0, len0, cap0, rfl⟩ := okWide_slice Try.underlying22 (hval 0 22 v0 rfl rfl)
  obtain ⟨b0, H0⟩ : ∃ l, Bs W (.slice a0 len0 cap0) l := by
    obtain ⟨fuel, hf⟩ := h0
    rcases open_ints Try.underlying22 Try.underlying5 (by kernel_rfl) hf with ⟨hcs, _⟩ | ⟨x, l, c, zs, hcs, _, hl, hm, hz, _, hcell, hwz⟩
    · simp [Value.cells] at hcs
      obtain ⟨rfl, rfl, rfl⟩ := hcs
      exact ⟨[], Row.nil W⟩
    · simp [Value.cells] at hcs
      obtain ⟨rfl, rfl, rfl⟩ := hcs
      exact bs_open hl hm (by simpa using hz) hcell hwz
  have k1 := h1
  have lt1 : ∀ x ∈ p1, x.block < W.heap.size := by obtain ⟨m, hm⟩ := k1; exact DataW.trod_lt m _ _ _ hm
  obtain ⟨a1, len1, cap1, rfl⟩ := okWide_slice Try.underlying22 (hval 1 22 v1 rfl rfl)
  obtain ⟨b1, H1⟩ : ∃ l, Bs W (.slice a1 len1 cap1) l := by
    obtain ⟨fuel, hf⟩ := h1
    rcases open_ints Try.underlying22 Try.underlying5 (by kernel_rfl) hf with ⟨hcs, _⟩ | ⟨x, l, c, zs, hcs, _, hl, hm, hz, _, hcell, hwz⟩
    · simp [Value.cells] at hcs
      obtain ⟨rfl, rfl, rfl⟩ := hcs
      exact ⟨[], Row.nil W⟩
    · simp [Value.cells] at hcs
      obtain ⟨rfl, rfl, rfl⟩ := hcs
      exact bs_open hl hm (by simpa using hz) hcell hwz
  have k2 := h2
  have lt2 : ∀ x ∈ p2, x.block < W.heap.size := by obtain ⟨m, hm⟩ := k2; exact DataW.trod_lt m _ _ _ hm
  obtain ⟨a2, len2, cap2, rfl⟩ := okWide_slice Try.underlying22 (hval 2 22 v2 rfl rfl)
  obtain ⟨b2, H2⟩ : ∃ l, Bs W (.slice a2 len2 cap2) l := by
    obtain ⟨fuel, hf⟩ := h2
    rcases open_ints Try.underlying22 Try.underlying5 (by kernel_rfl) hf with ⟨hcs, _⟩ | ⟨x, l, c, zs, hcs, _, hl, hm, hz, _, hcell, hwz⟩
    · simp [Value.cells] at hcs
      obtain ⟨rfl, rfl, rfl⟩ := hcs
      exact ⟨[], Row.nil W⟩
    · simp [Value.cells] at hcs
      obtain ⟨rfl, rfl, rfl⟩ := hcs
      exact bs_open hl hm (by simpa using hz) hcell hwz
  have k3 := h3
  have lt3 : ∀ x ∈ p3, x.block < W.heap.size := by obtain ⟨m, hm⟩ := k3; exact DataW.trod_lt m _ _ _ hm
  obtain ⟨a3, len3, cap3, rfl⟩ := okWide_slice Try.underlying22 (hval 3 22 v3 rfl rfl)
  obtain ⟨b3, H3⟩ : ∃ l, Bs W (.slice a3 len3 cap3) l := by
    obtain ⟨fuel, hf⟩ := h3
    rcases open_ints Try.underlying22 Try.underlying5 (by kernel_rfl) hf with ⟨hcs, _⟩ | ⟨x, l, c, zs, hcs, _, hl, hm, hz, _, hcell, hwz⟩
    · simp [Value.cells] at hcs
      obtain ⟨rfl, rfl, rfl⟩ := hcs
      exact ⟨[], Row.nil W⟩
    · simp [Value.cells] at hcs
      obtain ⟨rfl, rfl, rfl⟩ := hcs
      exact bs_open hl hm (by simpa using hz) hcell hwz
  clear hA0 hval0
  refine Calls.mono (SuiteApart_c (.slice a0 len0 cap0) b0 (.slice a1 len1 cap1) b1 (.slice a2 len2 cap2) b2 (.slice a3 len3 cap3) b3 W H0 H1 H2 H3) fun e W' ⟨v', he, hv, bel⟩ => ?_
  subst he
  subst hv
  exact ⟨_, rfl, _, _, _, [], _, [], hW', trodAll_mk1 (shut_bool Try.underlying4 _), (trodAll_cons_mk (Below.trod laidOut (by kernel_rfl) (of_decide_eq_true (by kernel_rfl)) k0 bel lt0) (trodAll_cons_mk (Below.trod laidOut (by kernel_rfl) (of_decide_eq_true (by kernel_rfl)) k1 bel lt1) (trodAll_cons_mk (Below.trod laidOut (by kernel_rfl) (of_decide_eq_true (by kernel_rfl)) k2 bel lt2) (trodAll_cons_mk (Below.trod laidOut (by kernel_rfl) (of_decide_eq_true (by kernel_rfl)) k3 bel lt3) trodAll_mk0)))), rfl, bel.frame _, fun h => by cases h⟩
theorem over : Rows.suiteApartRow.holds Try.pinned (OpenSpec.ofChange Rows.suiteApartSpec) :=
  OpenClaim.holds_of_wide 3 Try.f3 rfl rfl rfl rfl rfl rfl rfl ⟨rfl, rfl, rfl, rfl, rfl⟩ rfl rfl rfl rfl rfl (by kernel_rfl) Try.func3 (by kernel_rfl)
    (of_decide_eq_true (by kernel_rfl)) (by unfold Func.isWrapper; first | (rw [if_pos (by decide +kernel)]; kernel_rfl) | (rw [if_neg (by decide +kernel)]; exact ⟨rfl, rfl⟩))
    (fun os started H enc _ => lifted os started H enc)
end Go.Proofs.Ytamjafnjohiccaa.suiteApart
namespace Go.Proofs.Ytamjafnjohiccaa
theorem SuiteApart_holds : Rows.SuiteApartSaid := suiteApart.over
end Go.Proofs.Ytamjafnjohiccaa
