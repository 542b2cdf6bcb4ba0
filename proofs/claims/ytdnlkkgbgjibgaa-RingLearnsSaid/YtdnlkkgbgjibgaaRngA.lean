import Derived.Test.YtdnlkkgbgjibgaaCod
import Derived.Test.YtdnlkkgbgjibgaaRing
import Derived.Test.YtdnlkkgbgjibgaaSuiC
set_option linter.unusedVariables false
set_option linter.unusedSimpArgs false
namespace Go.Proofs.Ytdnlkkgbgjibgaa
open Go.RowKit Go.Ecal

set_option maxRecDepth 100000 in
set_option maxHeartbeats 4000000 in
theorem derived_c (p : Value) (L : List Thing) (v0 : Value) (s : List UInt8) (use : List UInt8) (n : Int) (I : Gh) (R : List HP) (w : World) (S : Sat w I (Suite p L :: R)) (Q0 : RoB I v0 s) (hl : L.length ≤ 1000000) (hs : s.length ≤ 100000) (hu : use.length ≤ 100) (hn : 0 ≤ n ∧ n ≤ 1099511627776) : Ret Try.prog 30 [p, v0, .string (str use), .int .i64 n] w fun v w' => ∃ v1 : Value, ∃ J : Gh, Gh.le I J ∧ v1 = v ∧ Sat w' J (OwnB v1 (keyFor L s use n) :: Suite p (onceL (derT s use n) L) :: R) := by
  have lq0 := RoB.le Q0 S.le
  refine ret_E Try.func30 rfl Try.ntmps30 (by simp) ?_
  refine EC_seq ?_
  refine EC_reg ?_
  refine EL_val (.slice none 0 0) w rfl (r_assign rfl) ?_
  refine EL_nil ?_
  refine thn_n ?_
  refine EC_seq ?_
  refine EC_reg ?_
  refine EL_val (.int .i64 n) w rfl (r_move rfl) ?_
  refine EL_val (.iface 3 (.int .i64 n)) w rfl (r_iface rfl Try.underlying3 rfl) ?_
  refine EL_lit1 (l := [(0, .iface 3 (.int .i64 n))]) w.heap.size [.iface 3 (.int .i64 n)] el_70 rfl (by decide) rfl (Nat.le_refl _) (parts1 rfl) (Eq.trans (show Instr.fill _ _ [(0, .iface 3 (.int .i64 n))] = _ from (fill_one rfl rfl (by kernel_rfl) fill_end)) (by kernel_rfl)) ?_
  intro v11 w12 O13 B14 k15
  have S16 : Sat w12 I (OwnX 20 anyR v11 [(Any.int n)] :: Suite p L :: R) := OwnX.cls (xss := [[.iface 3 (.int .i64 n)]]) (.cons ⟨rfl, (by first | assumption | omega)⟩ .nil) (S.newO B14 O13)
  have oH20 := (OwnX.one S16 0 rfl (by decide))
  obtain ⟨I17, le18, S19, H20⟩ : ∃ J : Gh, Gh.le I J ∧ Sat w12 J (Suite p L :: R) ∧ RoX J v11 anyR [(Any.int n)] := OwnX.frz S16 0 rfl (by decide)
  refine EL_ret _ rfl Try.func23 rfl nm23 rfl (Put_c v11 [(Any.int n)] I17 _ _ S19 H20 (by simp)) ?_
  rintro _ w21 ⟨v23, rfl, S22⟩
  have q25 : putB [(Any.int n)] = be6 n := (put1 (by omega)).1
  have S24 : Sat w21 I17 (OwnB v23 (be6 n) :: Suite p L :: R) := S22.as 0 rfl (congrArg (fun zz => OwnB v23 zz) q25)
  refine EL_val (.tuple #[v23, .int .i64 (putE [(Any.int n)])]) w21 rfl (r_move rfl) ?_
  refine EL_val v23 w21 rfl (r_extract rfl rfl) ?_
  refine EL_val (.int .i64 (putE [(Any.int n)])) w21 rfl (r_extract rfl rfl) ?_
  refine EL_val v23 w21 rfl (r_assign rfl) ?_
  refine EL_val (.int .i64 (putE [(Any.int n)])) w21 rfl (r_assign rfl) ?_
  refine EL_nil ?_
  refine thn_n ?_
  refine EC_seq ?_
  refine EC_reg ?_
  refine EL_val p w21 rfl (r_move rfl) ?_
  refine EL_val v0 w21 rfl (r_move rfl) ?_
  refine EL_val (.string (str use)) w21 rfl (r_move rfl) ?_
  refine EL_bytes (l := use) rfl rfl Try.underlying9 Try.underlying23 Try.underlying5 (by first | omega | (simp; omega)) ?_
  intro v26 w27 B28 V29 R30 V29l
  obtain ⟨I31, le32, S33, H34⟩ : ∃ J : Gh, Gh.le I17 J ∧ Sat w27 J (OwnB v23 (be6 n) :: Suite p L :: R) ∧ Ro J v26 (use.map byt) := S24.newR B28 V29 R30 V29l
  refine EL_val v23 w27 rfl (r_move rfl) ?_
  obtain ⟨I35, le36, S37, H38⟩ : ∃ J : Gh, Gh.le I31 J ∧ Sat w27 J (Suite p L :: R) ∧ Ro J v23 ((be6 n).map byt) := S33.frz 0 rfl
  refine EL_lit1 (l := [(0, v26), (1, v23)]) w27.heap.size [v26, v23] el_72 rfl (by decide) rfl (Nat.le_refl _) (parts2 rfl rfl) (Eq.trans (show Instr.fill _ _ [(0, v26), (1, v23)] = _ from (fill_one rfl (row_cells (H34 _ (Gh.le_trans le36 S37.le))) (by kernel_rfl) (fill_one rfl (row_cells (H38 _ S37.le)) (by kernel_rfl) fill_end))) (by kernel_rfl)) ?_
  intro v39 w40 O41 B42 k43
  have S44 : Sat w40 I35 (OwnX 23 bytesR v39 [use, be6 n] :: Suite p L :: R) := OwnX.cls (xss := [[v26], [v23]]) (.cons ⟨_, rfl, (row_one (H34 _ (Gh.le_trans le36 S37.le))), (H34.up le36)⟩ (.cons ⟨_, rfl, (row_one (H38 _ S37.le)), H38⟩ .nil)) (S37.newO B42 O41)
  have oH48 := (OwnX.one S44 0 rfl (by decide))
  obtain ⟨I45, le46, S47, H48⟩ : ∃ J : Gh, Gh.le I35 J ∧ Sat w40 J (Suite p L :: R) ∧ RoX J v39 bytesR [use, be6 n] := OwnX.frz S44 0 rfl (by decide)
  refine EL_ret _ rfl Try.func45 rfl nm45 rfl (Code_c p L v0 s v39 [use, be6 n] I45 _ _ S47 (Q0.up (Gh.le_trans (Gh.le_trans (Gh.le_trans le18 le32) le36) le46)) H48 (by first | assumption | omega | (simp; done) | (simp; omega)) (by omega) (by simp [be6]; omega)) ?_
  rintro _ w49 ⟨v51, rfl, S50⟩
  have q53 : signOf 77 (onceN (tCode s [use, be6 n].flatten) L) = signOf 77 (onceN (derT s use n) L) := by simp only [derT, List.flatten_cons, List.flatten_nil, List.append_nil]
  have S52 : Sat w49 I45 (OwnB v51 (signOf 77 (onceN (derT s use n) L)) :: Suite p (onceL (tCode s [use, be6 n].flatten) L) :: R) := S50.as 0 rfl (congrArg (fun zz => OwnB v51 zz) q53)
  have q55 : onceL (tCode s [use, be6 n].flatten) L = onceL (derT s use n) L := by simp only [derT, List.flatten_cons, List.flatten_nil, List.append_nil]
  have S54 : Sat w49 I45 (OwnB v51 (signOf 77 (onceN (derT s use n) L)) :: Suite p (onceL (derT s use n) L) :: R) := S52.as 1 rfl (congrArg (fun zz => Suite p zz) q55)
  refine EL_val v51 w49 rfl (r_assign rfl) ?_
  refine EL_nil ?_
  refine thn_n ?_
  refine EC_ret ?_
  refine fin1 Try.results30 (show _ = v51 from rfl) ⟨_, rfl, ?_⟩
  exact ⟨v51, I45, (Gh.le_trans (Gh.le_trans (Gh.le_trans le18 le32) le36) le46), rfl, S54⟩

set_option maxRecDepth 100000 in
set_option maxHeartbeats 4000000 in
theorem right_c (n : Int) (w : World) : Ret Try.prog 32 [.int .i64 n] w fun v w' => .bool (rightW n) = v ∧ Below w.heap.size w w' := by
  have S := Sat.start w
  refine ret_E Try.func32 rfl Try.ntmps32 (by simp) ?_
  refine EC_seq ?_
  refine EC_reg ?_
  refine EL_val (.bool false) w rfl (r_assign rfl) ?_
  refine EL_nil ?_
  refine thn_n ?_
  refine EC_seq ?_
  refine EC_reg ?_
  refine EL_val (.int .i64 n) w rfl (r_move rfl) ?_
  refine EL_val (.bool (decide (1 ≤ n))) w rfl (r_geq rfl rfl) ?_
  refine EL_val (.bool (decide (1 ≤ n))) w rfl (r_move rfl) ?_
  refine EL_gite 5 rfl rfl rfl (.int .i64 n) rfl (fun g11 => r_move rfl) ?_
  refine EL_gite 5 rfl rfl rfl (.bool (decide (n ≤ 16))) rfl (fun g12 => r_leq (cond_of g12 rfl) rfl) ?_
  refine EL_val (.bool ((decide (1 ≤ n)) && (decide (n ≤ 16)))) w rfl (r_and rfl rfl rfl) ?_
  refine EL_val (.bool ((decide (1 ≤ n)) && (decide (n ≤ 16)))) w rfl (r_assign rfl) ?_
  refine EL_nil ?_
  refine thn_n ?_
  refine EC_ret ?_
  refine fin1 Try.results32 (show _ = .bool ((decide (1 ≤ n)) && (decide (n ≤ 16))) from rfl) ⟨_, rfl, ?_⟩
  exact ⟨rfl, (Below.refl _ _)⟩

set_option maxRecDepth 100000 in
set_option maxHeartbeats 4000000 in
theorem spot_c (a : Int) (b : Int) (w : World) : Ret Try.prog 28 [.int .i64 a, .int .i64 b] w fun v w' => .bool (spotW a b) = v ∧ Below w.heap.size w w' := by
  have S := Sat.start w
  refine ret_E Try.func28 rfl Try.ntmps28 (by simp) ?_
  refine EC_seq ?_
  refine EC_reg ?_
  refine EL_val (.bool false) w rfl (r_assign rfl) ?_
  refine EL_nil ?_
  refine thn_n ?_
  refine EC_seq ?_
  refine EC_reg ?_
  refine EL_val (.int .i64 a) w rfl (r_move rfl) ?_
  refine EL_ret _ rfl Try.func32 rfl nm32 rfl (right_c a _) ?_
  rintro _ w12 ⟨rfl, B11⟩
  have S13 : Sat w12 (gh w) [] := S.below B11
  refine EL_val (.bool (rightW a)) w12 rfl (r_move rfl) ?_
  refine EL_gite 7 rfl rfl rfl (.int .i64 b) rfl (fun g14 => r_move rfl) ?_
  refine EL_gite 7 rfl rfl rfl (.bool (decide (1 ≤ b))) rfl (fun g15 => r_geq (cond_of g15 rfl) rfl) ?_
  refine EL_val (.bool ((rightW a) && (decide (1 ≤ b)))) w12 rfl (r_and rfl rfl rfl) ?_
  refine EL_val (.bool ((rightW a) && (decide (1 ≤ b)))) w12 rfl (r_move rfl) ?_
  refine EL_gite 11 rfl rfl rfl (.int .i64 b) rfl (fun g16 => r_move rfl) ?_
  refine EL_gite 11 rfl rfl rfl (.bool (decide (b ≤ 16))) rfl (fun g17 => r_leq (cond_of g17 rfl) rfl) ?_
  refine EL_val (.bool (((rightW a) && (decide (1 ≤ b))) && (decide (b ≤ 16)))) w12 rfl (r_and rfl rfl rfl) ?_
  refine EL_val (.bool (((rightW a) && (decide (1 ≤ b))) && (decide (b ≤ 16)))) w12 rfl (r_assign rfl) ?_
  refine EL_nil ?_
  refine thn_n ?_
  refine EC_ret ?_
  refine fin1 Try.results28 (show _ = .bool (((rightW a) && (decide (1 ≤ b))) && (decide (b ≤ 16))) from rfl) ⟨_, rfl, ?_⟩
  exact ⟨(by simp [spotW, Bool.and_assoc]), B11⟩

set_option maxRecDepth 100000 in
set_option maxHeartbeats 4000000 in
theorem Member_c (p : Value) (L : List Thing) (v0 : Value) (s : List UInt8) (n : Int) (I : Gh) (R : List HP) (w : World) (S : Sat w I (Suite p L :: R)) (Q0 : RoB I v0 s) (hl : L.length ≤ 1000000) (hs : s.length ≤ 100000) : Ret Try.prog 14 [p, v0, .int .i64 n] w fun v w' => ∃ v1 : Value, ∃ J : Gh, Gh.le I J ∧ .tuple #[v1, .int .i64 (rightE n)] = v ∧ Sat w' J (OwnB v1 (rightB L s uMember n) :: Suite p (rightL L s uMember n) :: R) := by
  have lq0 := RoB.le Q0 S.le
  refine ret_E Try.func14 rfl Try.ntmps14 (by simp) ?_
  refine EC_seq ?_
  refine EC_reg ?_
  refine EL_val (.slice none 0 0) w rfl (r_assign rfl) ?_
  refine EL_val (.int .i64 0) w rfl (r_assign rfl) ?_
  refine EL_nil ?_
  refine thn_n ?_
  refine EC_seq ?_
  refine EC_seq ?_
  refine EC_reg ?_
  refine EL_val (.int .i64 n) w rfl (r_move rfl) ?_
  refine EL_ret _ rfl Try.func32 rfl nm32 rfl (right_c n _) ?_
  rintro _ w12 ⟨rfl, B11⟩
  have S13 : Sat w12 I (Suite p L :: R) := S.below B11
  refine EL_val (.bool (!(rightW n))) w12 rfl (r_not rfl) ?_
  refine EL_nil ?_
  refine thn_n ?_
  refine EC_cond (t := !(rightW n)) rfl (fun h14 => ?_) (fun h14 => ?_)
  · have hr : rightW n = false := (Bool.not_eq_true' _).mp h14
    refine EC_seq ?_
    refine EC_reg ?_
    refine EL_val (.slice none 0 0) w12 rfl (r_assign rfl) ?_
    refine EL_val (.int .i64 12) w12 rfl (r_assign rfl) ?_
    refine EL_nil ?_
    refine thn_n ?_
    refine EC_ret ?_
    refine thn_r ?_
    refine fin2 Try.results14 (show _ = .slice none 0 0 from rfl) (show _ = .int .i64 12 from rfl) ⟨_, rfl, ?_⟩
    rw [show rightB L s uMember n = [] from by rw [rightB, hr]; rfl, show rightL L s uMember n = L from by rw [rightL, hr]; rfl]
    have S16 : Sat w12 I (OwnB (.slice none 0 0) ([] : List UInt8) :: Suite p L :: R) := S13.nil 5 1
    exact ⟨(.slice none 0 0), I, (Gh.le_refl _), (by rw [rightE, hr]; rfl), S16⟩
  · have hr : rightW n = true := (Bool.not_eq_false' _).mp h14
    have hri := rightW_iff.1 hr
    refine EC_skip ?_
    refine thn_n ?_
    refine EC_seq ?_
    refine EC_reg ?_
    refine EL_val p w12 rfl (r_move rfl) ?_
    refine EL_val v0 w12 rfl (r_move rfl) ?_
    refine EL_val (.int .i64 n) w12 rfl (r_move rfl) ?_
    refine EL_ret _ rfl Try.func30 rfl nm30 rfl (derived_c p L v0 s uMember n I _ _ S13 Q0 (by first | assumption | omega | (simp; done) | (simp; omega)) (by first | assumption | omega | (simp; done) | (simp; omega)) (by decide) (by first | assumption | omega | (simp; done) | (simp; omega))) ?_
    rintro _ w17 ⟨v19, I20, le21, rfl, S18⟩
    refine EL_val v19 w17 rfl (r_assign rfl) ?_
    refine EL_val (.int .i64 0) w17 rfl (r_assign rfl) ?_
    refine EL_nil ?_
    refine thn_n ?_
    refine EC_ret ?_
    refine fin2 Try.results14 (show _ = v19 from rfl) (show _ = .int .i64 0 from rfl) ⟨_, rfl, ?_⟩
    have q23 : keyFor L s uMember n = rightB L s uMember n := by rw [rightB, if_pos hr]
    have S22 : Sat w17 I20 (OwnB v19 (rightB L s uMember n) :: Suite p (onceL (derT s uMember n) L) :: R) := S18.as 0 rfl (congrArg (fun zz => OwnB v19 zz) q23)
    have q25 : onceL (derT s uMember n) L = rightL L s uMember n := by rw [rightL, if_pos hr]
    have S24 : Sat w17 I20 (OwnB v19 (rightB L s uMember n) :: Suite p (rightL L s uMember n) :: R) := S22.as 1 rfl (congrArg (fun zz => Suite p zz) q25)
    exact ⟨v19, I20, le21, (by rw [rightE, if_pos hr]), S24⟩

set_option maxRecDepth 100000 in
set_option maxHeartbeats 4000000 in
theorem Writer_c (p : Value) (L : List Thing) (v0 : Value) (s : List UInt8) (n : Int) (I : Gh) (R : List HP) (w : World) (S : Sat w I (Suite p L :: R)) (Q0 : RoB I v0 s) (hl : L.length ≤ 1000000) (hs : s.length ≤ 100000) : Ret Try.prog 15 [p, v0, .int .i64 n] w fun v w' => ∃ v1 : Value, ∃ J : Gh, Gh.le I J ∧ .tuple #[v1, .int .i64 (rightE n)] = v ∧ Sat w' J (OwnB v1 (rightB L s uWriter n) :: Suite p (rightL L s uWriter n) :: R) := by
  have lq0 := RoB.le Q0 S.le
  refine ret_E Try.func15 rfl Try.ntmps15 (by simp) ?_
  refine EC_seq ?_
  refine EC_reg ?_
  refine EL_val (.slice none 0 0) w rfl (r_assign rfl) ?_
  refine EL_val (.int .i64 0) w rfl (r_assign rfl) ?_
  refine EL_nil ?_
  refine thn_n ?_
  refine EC_seq ?_
  refine EC_seq ?_
  refine EC_reg ?_
  refine EL_val (.int .i64 n) w rfl (r_move rfl) ?_
  refine EL_ret _ rfl Try.func32 rfl nm32 rfl (right_c n _) ?_
  rintro _ w12 ⟨rfl, B11⟩
  have S13 : Sat w12 I (Suite p L :: R) := S.below B11
  refine EL_val (.bool (!(rightW n))) w12 rfl (r_not rfl) ?_
  refine EL_nil ?_
  refine thn_n ?_
  refine EC_cond (t := !(rightW n)) rfl (fun h14 => ?_) (fun h14 => ?_)
  · have hr : rightW n = false := (Bool.not_eq_true' _).mp h14
    refine EC_seq ?_
    refine EC_reg ?_
    refine EL_val (.slice none 0 0) w12 rfl (r_assign rfl) ?_
    refine EL_val (.int .i64 12) w12 rfl (r_assign rfl) ?_
    refine EL_nil ?_
    refine thn_n ?_
    refine EC_ret ?_
    refine thn_r ?_
    refine fin2 Try.results15 (show _ = .slice none 0 0 from rfl) (show _ = .int .i64 12 from rfl) ⟨_, rfl, ?_⟩
    rw [show rightB L s uWriter n = [] from by rw [rightB, hr]; rfl, show rightL L s uWriter n = L from by rw [rightL, hr]; rfl]
    have S16 : Sat w12 I (OwnB (.slice none 0 0) ([] : List UInt8) :: Suite p L :: R) := S13.nil 5 1
    exact ⟨(.slice none 0 0), I, (Gh.le_refl _), (by rw [rightE, hr]; rfl), S16⟩
  · have hr : rightW n = true := (Bool.not_eq_false' _).mp h14
    have hri := rightW_iff.1 hr
    refine EC_skip ?_
    refine thn_n ?_
    refine EC_seq ?_
    refine EC_reg ?_
    refine EL_val p w12 rfl (r_move rfl) ?_
    refine EL_val v0 w12 rfl (r_move rfl) ?_
    refine EL_val (.int .i64 n) w12 rfl (r_move rfl) ?_
    refine EL_ret _ rfl Try.func30 rfl nm30 rfl (derived_c p L v0 s uWriter n I _ _ S13 Q0 (by first | assumption | omega | (simp; done) | (simp; omega)) (by first | assumption | omega | (simp; done) | (simp; omega)) (by decide) (by first | assumption | omega | (simp; done) | (simp; omega))) ?_
    rintro _ w17 ⟨v19, I20, le21, rfl, S18⟩
    refine EL_val v19 w17 rfl (r_assign rfl) ?_
    refine EL_val (.int .i64 0) w17 rfl (r_assign rfl) ?_
    refine EL_nil ?_
    refine thn_n ?_
    refine EC_ret ?_
    refine fin2 Try.results15 (show _ = v19 from rfl) (show _ = .int .i64 0 from rfl) ⟨_, rfl, ?_⟩
    have q23 : keyFor L s uWriter n = rightB L s uWriter n := by rw [rightB, if_pos hr]
    have S22 : Sat w17 I20 (OwnB v19 (rightB L s uWriter n) :: Suite p (onceL (derT s uWriter n) L) :: R) := S18.as 0 rfl (congrArg (fun zz => OwnB v19 zz) q23)
    have q25 : onceL (derT s uWriter n) L = rightL L s uWriter n := by rw [rightL, if_pos hr]
    have S24 : Sat w17 I20 (OwnB v19 (rightB L s uWriter n) :: Suite p (rightL L s uWriter n) :: R) := S22.as 1 rfl (congrArg (fun zz => Suite p zz) q25)
    exact ⟨v19, I20, le21, (by rw [rightE, if_pos hr]), S24⟩

set_option maxRecDepth 100000 in
set_option maxHeartbeats 4000000 in
theorem Nonce_c (a : Int) (b : Int) (I : Gh) (R : List HP) (w : World) (S : Sat w I (R)) : Ret Try.prog 9 [.int .i64 a, .int .i64 b] w fun v w' => ∃ v1 : Value, ∃ J : Gh, Gh.le I J ∧ .tuple #[v1, .int .i64 (nonceE a b)] = v ∧ Sat w' J (OwnB v1 (nonceB a b) :: R) := by
  refine ret_E Try.func9 rfl Try.ntmps9 (by simp) ?_
  refine EC_seq ?_
  refine EC_reg ?_
  refine EL_val (.slice none 0 0) w rfl (r_assign rfl) ?_
  refine EL_val (.int .i64 0) w rfl (r_assign rfl) ?_
  refine EL_nil ?_
  refine thn_n ?_
  refine EC_seq ?_
  refine EC_seq ?_
  refine EC_reg ?_
  refine EL_val (.int .i64 a) w rfl (r_move rfl) ?_
  refine EL_val (.bool (decide (a < 0))) w rfl (r_lss rfl rfl) ?_
  refine EL_val (.bool (decide (a < 0))) w rfl (r_move rfl) ?_
  refine EL_gite 8 rfl rfl rfl (.int .i64 a) rfl (fun g11 => r_move rfl) ?_
  refine EL_gite 8 rfl rfl rfl (.bool (decide (4294967295 < a))) rfl (fun g12 => r_gtr (cond_of g12 rfl) rfl) ?_
  refine EL_val (.bool ((decide (a < 0)) || (decide (4294967295 < a)))) w rfl (r_or rfl rfl rfl) ?_
  refine EL_val (.bool ((decide (a < 0)) || (decide (4294967295 < a)))) w rfl (r_move rfl) ?_
  refine EL_gite 12 rfl rfl rfl (.int .i64 b) rfl (fun g13 => r_move rfl) ?_
  refine EL_gite 12 rfl rfl rfl (.bool (decide (b < 0))) rfl (fun g14 => r_lss (cond_of g14 rfl) rfl) ?_
  refine EL_val (.bool (((decide (a < 0)) || (decide (4294967295 < a))) || (decide (b < 0)))) w rfl (r_or rfl rfl rfl) ?_
  refine EL_val (.bool (((decide (a < 0)) || (decide (4294967295 < a))) || (decide (b < 0)))) w rfl (r_move rfl) ?_
  refine EL_gite 16 rfl rfl rfl (.int .i64 b) rfl (fun g15 => r_move rfl) ?_
  refine EL_gite 16 rfl rfl rfl (.bool (decide (1099511627776 < b))) rfl (fun g16 => r_gtr (cond_of g16 rfl) rfl) ?_
  refine EL_val (.bool ((((decide (a < 0)) || (decide (4294967295 < a))) || (decide (b < 0))) || (decide (1099511627776 < b)))) w rfl (r_or rfl rfl rfl) ?_
  refine EL_nil ?_
  refine thn_n ?_
  refine EC_cond (t := (((decide (a < 0)) || (decide (4294967295 < a))) || (decide (b < 0))) || (decide (1099511627776 < b))) rfl (fun h17 => ?_) (fun h17 => ?_)
  · have hr : nonceOk a b = false := by rw [← Bool.not_eq_true, nonceOk_iff]; simp at h17; omega
    refine EC_seq ?_
    refine EC_reg ?_
    refine EL_val (.slice none 0 0) w rfl (r_assign rfl) ?_
    refine EL_val (.int .i64 12) w rfl (r_assign rfl) ?_
    refine EL_nil ?_
    refine thn_n ?_
    refine EC_ret ?_
    refine thn_r ?_
    refine fin2 Try.results9 (show _ = .slice none 0 0 from rfl) (show _ = .int .i64 12 from rfl) ⟨_, rfl, ?_⟩
    rw [show nonceB a b = [] from by rw [nonceB, hr]; rfl]
    have S19 : Sat w I (OwnB (.slice none 0 0) ([] : List UInt8) :: R) := S.nil 5 1
    exact ⟨(.slice none 0 0), I, (Gh.le_refl _), (by rw [nonceE, hr]; rfl), S19⟩
  · have hr : nonceOk a b = true := by rw [nonceOk_iff]; simp at h17; omega
    have hri := nonceOk_iff.1 hr
    refine EC_skip ?_
    refine thn_n ?_
    refine EC_seq ?_
    refine EC_reg ?_
    refine EL_val (.int .i64 a) w rfl (r_move rfl) ?_
    refine EL_val (.iface 3 (.int .i64 a)) w rfl (r_iface rfl Try.underlying3 rfl) ?_
    refine EL_val (.int .i64 b) w rfl (r_move rfl) ?_
    refine EL_val (.iface 3 (.int .i64 b)) w rfl (r_iface rfl Try.underlying3 rfl) ?_
    refine EL_lit1 (l := [(0, .iface 3 (.int .i64 a)), (1, .iface 3 (.int .i64 b))]) w.heap.size [.iface 3 (.int .i64 a), .iface 3 (.int .i64 b)] el_70 rfl (by decide) rfl (Nat.le_refl _) (parts2 rfl rfl) (Eq.trans (show Instr.fill _ _ [(0, .iface 3 (.int .i64 a)), (1, .iface 3 (.int .i64 b))] = _ from (fill_one rfl rfl (by kernel_rfl) (fill_one rfl rfl (by kernel_rfl) fill_end))) (by kernel_rfl)) ?_
    intro v20 w21 O22 B23 k24
    have S25 : Sat w21 I (OwnX 20 anyR v20 [(Any.int a), (Any.int b)] :: R) := OwnX.cls (xss := [[.iface 3 (.int .i64 a)], [.iface 3 (.int .i64 b)]]) (.cons ⟨rfl, (by first | assumption | omega)⟩ (.cons ⟨rfl, (by first | assumption | omega)⟩ .nil)) (S.newO B23 O22)
    have oH29 := (OwnX.one S25 0 rfl (by decide))
    obtain ⟨I26, le27, S28, H29⟩ : ∃ J : Gh, Gh.le I J ∧ Sat w21 J (R) ∧ RoX J v20 anyR [(Any.int a), (Any.int b)] := OwnX.frz S25 0 rfl (by decide)
    refine EL_ret _ rfl Try.func23 rfl nm23 rfl (Put_c v20 [(Any.int a), (Any.int b)] I26 _ _ S28 H29 (by simp)) ?_
    rintro _ w30 ⟨v32, rfl, S31⟩
    have q34 : putB [(Any.int a), (Any.int b)] = be6 a ++ be6 b := (put2 (by omega) (by omega)).1
    have S33 : Sat w30 I26 (OwnB v32 (be6 a ++ be6 b) :: R) := S31.as 0 rfl (congrArg (fun zz => OwnB v32 zz) q34)
    refine EL_val v32 w30 rfl (r_extract rfl rfl) ?_
    refine EL_val (.int .i64 (putE [(Any.int a), (Any.int b)])) w30 rfl (r_extract rfl rfl) ?_
    refine EL_val v32 w30 rfl (r_assign rfl) ?_
    refine EL_val (.int .i64 (putE [(Any.int a), (Any.int b)])) w30 rfl (r_assign rfl) ?_
    refine EL_nil ?_
    refine thn_n ?_
    refine EC_ret ?_
    refine fin2 Try.results9 (show _ = v32 from rfl) (show _ = .int .i64 (putE [(Any.int a), (Any.int b)]) from rfl) ⟨_, rfl, ?_⟩
    have q36 : be6 a ++ be6 b = nonceB a b := by rw [nonceB, if_pos hr]
    have S35 : Sat w30 I26 (OwnB v32 (nonceB a b) :: R) := S33.as 0 rfl (congrArg (fun zz => OwnB v32 zz) q36)
    exact ⟨v32, I26, le27, (by rw [nonceE, if_pos hr, (put2 (n := a) (m := b) (by omega) (by omega)).2]), S35⟩

set_option maxRecDepth 100000 in
set_option maxHeartbeats 4000000 in
theorem Wrap_c (p : Value) (L : List Thing) (v0 : Value) (s : List UInt8) (who : Int) (ep : Int) (v1 : Value) (key : List UInt8) (I : Gh) (R : List HP) (w : World) (S : Sat w I (Suite p L :: R)) (Q0 : RoB I v0 s) (Q1 : RoB I v1 key) (hl : L.length ≤ 900000) (hs : s.length ≤ 100000) : Ret Try.prog 12 [p, v0, .int .i64 who, .int .i64 ep, v1] w fun v w' => ∃ v2 : Value, ∃ J : Gh, Gh.le I J ∧ .tuple #[v2, .int .i64 (wrapE who ep key)] = v ∧ Sat w' J (OwnB v2 (wrapB L s who ep key) :: Suite p (wrapL L s who ep key) :: R) := by
  have lq0 := RoB.le Q0 S.le
  have lq1 := RoB.le Q1 S.le
  refine ret_E Try.func12 rfl Try.ntmps12 (by simp) ?_
  refine EC_seq ?_
  refine EC_reg ?_
  refine EL_val (.slice none 0 0) w rfl (r_assign rfl) ?_
  refine EL_val (.int .i64 0) w rfl (r_assign rfl) ?_
  refine EL_nil ?_
  refine thn_n ?_
  refine EC_seq ?_
  refine EC_block ?_
  refine EC_seq ?_
  refine EC_reg ?_
  refine EL_val (.int .i64 who) w rfl (r_move rfl) ?_
  refine EL_val (.int .i64 ep) w rfl (r_move rfl) ?_
  refine EL_ret _ rfl Try.func28 rfl nm28 rfl (spot_c who ep _) ?_
  rintro _ w12 ⟨rfl, B11⟩
  have S13 : Sat w12 I (Suite p L :: R) := S.below B11
  refine EL_val (.bool (!(spotW who ep))) w12 rfl (r_not rfl) ?_
  refine EL_val (.bool (!(spotW who ep))) w12 rfl (r_assign rfl) ?_
  refine EL_nil ?_
  refine thn_n ?_
  refine EC_cond (t := !(spotW who ep)) rfl (fun h14 => ?_) (fun h14 => ?_)
  · have hr : spotW who ep = false := (Bool.not_eq_true' _).mp h14
    refine EC_seq ?_
    refine EC_reg ?_
    refine EL_val (.slice none 0 0) w12 rfl (r_assign rfl) ?_
    refine EL_val (.int .i64 12) w12 rfl (r_assign rfl) ?_
    refine EL_nil ?_
    refine thn_n ?_
    refine EC_ret ?_
    refine inB_r ?_
    refine thn_r ?_
    refine fin2 Try.results12 (show _ = .slice none 0 0 from rfl) (show _ = .int .i64 12 from rfl) ⟨_, rfl, ?_⟩
    have hE : wrapE who ep key = 12 := by rw [wrapE, hr]; rfl --]
    rw [show wrapB L s who ep key = [] from by rw [wrapB, hE]; rfl, show wrapL L s who ep key = L from by rw [wrapL, hE]; rfl]
    have S16 : Sat w12 I (OwnB (.slice none 0 0) ([] : List UInt8) :: Suite p L :: R) := S13.nil 5 1
    exact ⟨(.slice none 0 0), I, (Gh.le_refl _), (by rw [hE]), S16⟩
  · have hr : spotW who ep = true := (Bool.not_eq_false' _).mp h14
    have hri := spotW_iff.1 hr
    refine EC_seq ?_
    refine EC_reg ?_
    refine EL_val v1 w12 rfl (r_move rfl) ?_
    refine EL_val (.int .i64 (key.length : Int)) w12 rfl (lenB (r_len rfl (Q1 _ S13.le) Try.underlying23)) ?_
    refine EL_val (.bool (decide ((key.length : Int) ≠ 32))) w12 rfl (r_neq rfl rfl) ?_
    refine EL_val (.bool (decide ((key.length : Int) ≠ 32))) w12 rfl (r_assign rfl) ?_
    refine EL_nil ?_
    refine thn_n ?_
    refine EC_if (p := (key.length : Int) ≠ 32) rfl (fun h17 => ?_) (fun h17 => ?_)
    · have hk32 : ¬ key.length = 32 := by omega
      refine EC_seq ?_
      refine EC_reg ?_
      refine EL_val (.slice none 0 0) w12 rfl (r_assign rfl) ?_
      refine EL_val (.int .i64 11) w12 rfl (r_assign rfl) ?_
      refine EL_nil ?_
      refine thn_n ?_
      refine EC_ret ?_
      refine inB_r ?_
      refine thn_r ?_
      refine fin2 Try.results12 (show _ = .slice none 0 0 from rfl) (show _ = .int .i64 11 from rfl) ⟨_, rfl, ?_⟩
      have hE : wrapE who ep key = 11 := by rw [wrapE, if_pos hr, if_neg hk32]
      rw [show wrapB L s who ep key = [] from by rw [wrapB, hE]; rfl, show wrapL L s who ep key = L from by rw [wrapL, hE]; rfl]
      have S19 : Sat w12 I (OwnB (.slice none 0 0) ([] : List UInt8) :: Suite p L :: R) := S13.nil 5 1
      exact ⟨(.slice none 0 0), I, (Gh.le_refl _), (by rw [hE]), S19⟩
    · have hk32 : key.length = 32 := by omega
      refine EC_skip ?_
      refine inB_n ?_
      refine thn_n ?_
      refine EC_seq ?_
      refine EC_reg ?_
      refine EL_val (.int .i64 ep) w12 rfl (r_move rfl) ?_
      refine EL_ret _ rfl Try.func9 rfl nm9 rfl (Nonce_c 0 ep I _ _ S13) ?_
      rintro _ w20 ⟨v22, I23, le24, rfl, S21⟩
      refine EL_val (.tuple #[v22, .int .i64 (nonceE 0 ep)]) w20 rfl (r_move rfl) ?_
      refine EL_val v22 w20 rfl (r_extract rfl rfl) ?_
      refine EL_val (.int .i64 (nonceE 0 ep)) w20 rfl (r_extract rfl rfl) ?_
      refine EL_val v22 w20 rfl (r_assign rfl) ?_
      refine EL_val (.int .i64 (nonceE 0 ep)) w20 rfl (r_assign rfl) ?_
      refine EL_nil ?_
      refine thn_n ?_
      refine EC_seq ?_
      refine EC_reg ?_
      refine EL_val p w20 rfl (r_move rfl) ?_
      refine EL_val p w20 rfl (r_move rfl) ?_
      refine EL_val v0 w20 rfl (r_move rfl) ?_
      refine EL_val (.int .i64 who) w20 rfl (r_move rfl) ?_
      have S25 : Sat w20 I23 (Suite p L :: OwnB v22 (nonceB 0 ep) :: R) := S21.cons_front (i := 1) rfl
      refine EL_ret _ rfl Try.func30 rfl nm30 rfl (derived_c p L v0 s uMember who I23 _ _ S25 (Q0.up le24) (by first | assumption | omega | (simp; done) | (simp; omega)) (by omega) (by decide) (by first | assumption | omega | (simp; done) | (simp; omega))) ?_
      rintro _ w26 ⟨v28, I29, le30, rfl, S27⟩
      refine EL_val v22 w26 rfl (r_move rfl) ?_
      refine EL_lit w26.heap.size #[.int .u8 119, .int .u8 114, .int .u8 97, .int .u8 112] elB rfl (by decide) rfl (Nat.le_refl _) (by kernel_rfl) ?_
      intro v31 w32 O33 B34 k35 z36
      have S37 : Sat w32 I29 (OwnB v31 [(119 : UInt8), (114 : UInt8), (97 : UInt8), (112 : UInt8)] :: OwnB v28 (keyFor L s uMember who) :: Suite p (onceL (derT s uMember who) L) :: OwnB v22 (nonceB 0 ep) :: R) := S27.newO B34 (own_eq (l := [(119 : UInt8), (114 : UInt8), (97 : UInt8), (112 : UInt8)]) O33 (by simp [bof_val, byt]))
      refine EL_mark (v := v31) rfl rfl (S37.own 0 rfl) (by simp) Try.underlying23 Try.underlying5 ?_
      intro w38 R39 G40 z41
      obtain ⟨g47, q46⟩ : ∃ g, v31.ownBlock = some g := own_block (S37.own 0 rfl) (by simp)
      obtain ⟨I42, le43, S44, H45⟩ : ∃ J : Gh, Gh.le I29 J ∧ Sat w38 J (OwnB v28 (keyFor L s uMember who) :: Suite p (onceL (derT s uMember who) L) :: OwnB v22 (nonceB 0 ep) :: R) ∧ Ro J v31 ([(119 : UInt8), (114 : UInt8), (97 : UInt8), (112 : UInt8)].map byt) := S37.frzTo 0 rfl G40 q46 R39
      refine EL_val v1 w38 rfl (r_move rfl) ?_
      obtain ⟨I48, le49, S50, H51⟩ : ∃ J : Gh, Gh.le I42 J ∧ Sat w38 J (Suite p (onceL (derT s uMember who) L) :: OwnB v22 (nonceB 0 ep) :: R) ∧ Ro J v28 ((keyFor L s uMember who).map byt) := S44.frz 0 rfl
      obtain ⟨I52, le53, S54, H55⟩ : ∃ J : Gh, Gh.le I48 J ∧ Sat w38 J (Suite p (onceL (derT s uMember who) L) :: R) ∧ Ro J v22 ((nonceB 0 ep).map byt) := S50.frz 1 rfl
      refine EL_ret _ rfl Try.func29 rfl nm29 rfl (SealOk_c p (onceL (derT s uMember who) L) v28 (keyFor L s uMember who) v22 (nonceB 0 ep) v31 [(119 : UInt8), (114 : UInt8), (97 : UInt8), (112 : UInt8)] v1 key I52 _ _ S54 (H51.up le53) H55 (H45.up (Gh.le_trans le49 le53)) (Q1.up (Gh.le_trans (Gh.le_trans (Gh.le_trans (Gh.le_trans le24 le30) le43) le49) le53)) (Nat.le_trans (onceL_len _ _) (by omega)) (by rw [keyFor, sign_len]; decide) (by rw [nonceB, if_pos (by simp [nonceOk]; omega)]; simp [be6]) (by decide) (by first | assumption | omega | (simp; done) | (simp; omega)) (by rw [nonceB, if_pos (by simp [nonceOk]; omega)]; exact key_sz)) ?_
      rintro _ w56 ⟨v58, rfl, S57⟩
      refine EL_val v58 w56 rfl (r_extract rfl rfl) ?_
      refine EL_val (.int .i64 0) w56 rfl (r_extract rfl rfl) ?_
      refine EL_val v58 w56 rfl (r_assign rfl) ?_
      refine EL_val (.int .i64 0) w56 rfl (r_assign rfl) ?_
      refine EL_nil ?_
      refine thn_n ?_
      refine EC_ret ?_
      refine fin2 Try.results12 (show _ = v58 from rfl) (show _ = .int .i64 0 from rfl) ⟨_, rfl, ?_⟩
      have hE : wrapE who ep key = 0 := by rw [wrapE, if_pos hr, if_pos hk32]
      have q60 : boxOf (((onceL (derT s uMember who) L).length : Int) + 1) key.length = wrapB L s who ep key := by rw [wrapB, if_pos hE, hk32]
      have S59 : Sat w56 I52 (OwnB v58 (wrapB L s who ep key) :: Suite p ((onceL (derT s uMember who) L) ++ [tBox (keyFor L s uMember who) (nonceB 0 ep) [(119 : UInt8), (114 : UInt8), (97 : UInt8), (112 : UInt8)] key]) :: R) := S57.as 0 rfl (congrArg (fun zz => OwnB v58 zz) q60)
      have q62 : (onceL (derT s uMember who) L) ++ [tBox (keyFor L s uMember who) (nonceB 0 ep) [(119 : UInt8), (114 : UInt8), (97 : UInt8), (112 : UInt8)] key] = wrapL L s who ep key := by rw [wrapL, if_pos hE, wrapT, nonceB, if_pos (by simp [nonceOk]; omega)]
      have S61 : Sat w56 I52 (OwnB v58 (wrapB L s who ep key) :: Suite p (wrapL L s who ep key) :: R) := S59.as 1 rfl (congrArg (fun zz => Suite p zz) q62)
      exact ⟨v58, I52, (Gh.le_trans (Gh.le_trans (Gh.le_trans (Gh.le_trans le24 le30) le43) le49) le53), (by rw [hE]), S61⟩

set_option maxRecDepth 100000 in
set_option maxHeartbeats 4000000 in
theorem Unwrap_c (p : Value) (L : List Thing) (v0 : Value) (s : List UInt8) (who : Int) (ep : Int) (v1 : Value) (b : List UInt8) (I : Gh) (R : List HP) (w : World) (S : Sat w I (Suite p L :: R)) (Q0 : RoB I v0 s) (Q1 : RoB I v1 b) (hl : L.length ≤ 900000) (hs : s.length ≤ 100000) (hb : b.length ≤ 800000000) (hT : ∀ t ∈ L, t.text.length ≤ 800000000) : Ret Try.prog 13 [p, v0, .int .i64 who, .int .i64 ep, v1] w fun v w' => ∃ v2 : Value, ∃ J : Gh, Gh.le I J ∧ .tuple #[v2, .int .i64 (unwrapE L s who ep b)] = v ∧ RoB J v2 (unwrapB L s who ep b) ∧ Sat w' J (Suite p (unwrapL L s who ep) :: R) := by
  have lq0 := RoB.le Q0 S.le
  have lq1 := RoB.le Q1 S.le
  refine ret_E Try.func13 rfl Try.ntmps13 (by simp) ?_
  refine EC_seq ?_
  refine EC_reg ?_
  refine EL_val (.slice none 0 0) w rfl (r_assign rfl) ?_
  refine EL_val (.int .i64 0) w rfl (r_assign rfl) ?_
  refine EL_nil ?_
  refine thn_n ?_
  refine EC_seq ?_
  refine EC_seq ?_
  refine EC_reg ?_
  refine EL_val (.int .i64 who) w rfl (r_move rfl) ?_
  refine EL_val (.int .i64 ep) w rfl (r_move rfl) ?_
  refine EL_ret _ rfl Try.func28 rfl nm28 rfl (spot_c who ep _) ?_
  rintro _ w12 ⟨rfl, B11⟩
  have S13 : Sat w12 I (Suite p L :: R) := S.below B11
  refine EL_val (.bool (!(spotW who ep))) w12 rfl (r_not rfl) ?_
  refine EL_nil ?_
  refine thn_n ?_
  refine EC_cond (t := !(spotW who ep)) rfl (fun h14 => ?_) (fun h14 => ?_)
  · have hr : spotW who ep = false := (Bool.not_eq_true' _).mp h14
    refine EC_seq ?_
    refine EC_reg ?_
    refine EL_val (.slice none 0 0) w12 rfl (r_assign rfl) ?_
    refine EL_val (.int .i64 12) w12 rfl (r_assign rfl) ?_
    refine EL_nil ?_
    refine thn_n ?_
    refine EC_ret ?_
    refine thn_r ?_
    refine fin2 Try.results13 (show _ = .slice none 0 0 from rfl) (show _ = .int .i64 12 from rfl) ⟨_, rfl, ?_⟩
    rw [show unwrapB L s who ep b = [] from by rw [unwrapB, hr]; rfl, show unwrapL L s who ep = L from by rw [unwrapL, hr]; rfl]
    exact ⟨(.slice none 0 0), I, (Gh.le_refl _), (by rw [unwrapE, hr]; rfl), Ro.nil, S13⟩
  · have hr : spotW who ep = true := (Bool.not_eq_false' _).mp h14
    have hri := spotW_iff.1 hr
    refine EC_skip ?_
    refine thn_n ?_
    refine EC_seq ?_
    refine EC_reg ?_
    refine EL_val (.int .i64 ep) w12 rfl (r_move rfl) ?_
    refine EL_ret _ rfl Try.func9 rfl nm9 rfl (Nonce_c 0 ep I _ _ S13) ?_
    rintro _ w15 ⟨v17, I18, le19, rfl, S16⟩
    have q21 : nonceB 0 ep = be6 0 ++ be6 ep := by rw [nonceB, if_pos (by simp [nonceOk]; omega)]
    have S20 : Sat w15 I18 (OwnB v17 (be6 0 ++ be6 ep) :: Suite p L :: R) := S16.as 0 rfl (congrArg (fun zz => OwnB v17 zz) q21)
    refine EL_val (.tuple #[v17, .int .i64 (nonceE 0 ep)]) w15 rfl (r_move rfl) ?_
    refine EL_val v17 w15 rfl (r_extract rfl rfl) ?_
    refine EL_val (.int .i64 (nonceE 0 ep)) w15 rfl (r_extract rfl rfl) ?_
    refine EL_val v17 w15 rfl (r_assign rfl) ?_
    refine EL_val (.int .i64 (nonceE 0 ep)) w15 rfl (r_assign rfl) ?_
    refine EL_nil ?_
    refine thn_n ?_
    refine EC_seq ?_
    refine EC_reg ?_
    refine EL_val p w15 rfl (r_move rfl) ?_
    refine EL_val p w15 rfl (r_move rfl) ?_
    refine EL_val v0 w15 rfl (r_move rfl) ?_
    refine EL_val (.int .i64 who) w15 rfl (r_move rfl) ?_
    have S22 : Sat w15 I18 (Suite p L :: OwnB v17 (be6 0 ++ be6 ep) :: R) := S20.cons_front (i := 1) rfl
    refine EL_ret _ rfl Try.func30 rfl nm30 rfl (derived_c p L v0 s uMember who I18 _ _ S22 (Q0.up le19) (by first | assumption | omega | (simp; done) | (simp; omega)) (by omega) (by decide) (by first | assumption | omega | (simp; done) | (simp; omega))) ?_
    rintro _ w23 ⟨v25, I26, le27, rfl, S24⟩
    refine EL_val v17 w23 rfl (r_move rfl) ?_
    refine EL_lit w23.heap.size #[.int .u8 119, .int .u8 114, .int .u8 97, .int .u8 112] elB rfl (by decide) rfl (Nat.le_refl _) (by kernel_rfl) ?_
    intro v28 w29 O30 B31 k32 z33
    have S34 : Sat w29 I26 (OwnB v28 [(119 : UInt8), (114 : UInt8), (97 : UInt8), (112 : UInt8)] :: OwnB v25 (keyFor L s uMember who) :: Suite p (onceL (derT s uMember who) L) :: OwnB v17 (be6 0 ++ be6 ep) :: R) := S24.newO B31 (own_eq (l := [(119 : UInt8), (114 : UInt8), (97 : UInt8), (112 : UInt8)]) O30 (by simp [bof_val, byt]))
    refine EL_mark (v := v28) rfl rfl (S34.own 0 rfl) (by simp) Try.underlying23 Try.underlying5 ?_
    intro w35 R36 G37 z38
    obtain ⟨g44, q43⟩ : ∃ g, v28.ownBlock = some g := own_block (S34.own 0 rfl) (by simp)
    obtain ⟨I39, le40, S41, H42⟩ : ∃ J : Gh, Gh.le I26 J ∧ Sat w35 J (OwnB v25 (keyFor L s uMember who) :: Suite p (onceL (derT s uMember who) L) :: OwnB v17 (be6 0 ++ be6 ep) :: R) ∧ Ro J v28 ([(119 : UInt8), (114 : UInt8), (97 : UInt8), (112 : UInt8)].map byt) := S34.frzTo 0 rfl G37 q43 R36
    refine EL_val v1 w35 rfl (r_move rfl) ?_
    obtain ⟨I45, le46, S47, H48⟩ : ∃ J : Gh, Gh.le I39 J ∧ Sat w35 J (Suite p (onceL (derT s uMember who) L) :: OwnB v17 (be6 0 ++ be6 ep) :: R) ∧ Ro J v25 ((keyFor L s uMember who).map byt) := S41.frz 0 rfl
    obtain ⟨I49, le50, S51, H52⟩ : ∃ J : Gh, Gh.le I45 J ∧ Sat w35 J (Suite p (onceL (derT s uMember who) L) :: R) ∧ Ro J v17 ((be6 0 ++ be6 ep).map byt) := S47.frz 1 rfl
    refine EL_ret _ rfl Try.func31 rfl nm31 rfl (Open_c p (onceL (derT s uMember who) L) v25 (keyFor L s uMember who) v17 (be6 0 ++ be6 ep) v28 [(119 : UInt8), (114 : UInt8), (97 : UInt8), (112 : UInt8)] v1 b I49 _ _ S51 (H48.up le50) H52 (H42.up (Gh.le_trans le46 le50)) (Q1.up (Gh.le_trans (Gh.le_trans (Gh.le_trans (Gh.le_trans le19 le27) le40) le46) le50)) (Nat.le_trans (onceL_len _ _) (by omega)) (by rw [keyFor, sign_len]; decide) (by simp [be6]) (by decide) (by first | assumption | omega | (simp; done) | (simp; omega)) (small_once hT (by simp [be6]))) ?_
    rintro _ w53 ⟨v55, I56, le57, rfl, H58, S54⟩
    refine EL_val (.tuple #[v55, .int .i64 (openE (onceL (derT s uMember who) L) (keyFor L s uMember who) (be6 0 ++ be6 ep) [(119 : UInt8), (114 : UInt8), (97 : UInt8), (112 : UInt8)] b)]) w53 rfl (r_move rfl) ?_
    refine EL_val v55 w53 rfl (r_extract rfl rfl) ?_
    refine EL_val (.int .i64 (openE (onceL (derT s uMember who) L) (keyFor L s uMember who) (be6 0 ++ be6 ep) [(119 : UInt8), (114 : UInt8), (97 : UInt8), (112 : UInt8)] b)) w53 rfl (r_extract rfl rfl) ?_
    refine EL_val v55 w53 rfl (r_assign rfl) ?_
    refine EL_val (.int .i64 (openE (onceL (derT s uMember who) L) (keyFor L s uMember who) (be6 0 ++ be6 ep) [(119 : UInt8), (114 : UInt8), (97 : UInt8), (112 : UInt8)] b)) w53 rfl (r_assign rfl) ?_
    refine EL_nil ?_
    refine thn_n ?_
    refine EC_seq ?_
    refine EC_seq ?_
    refine EC_reg ?_
    refine EL_val (.int .i64 (openE (onceL (derT s uMember who) L) (keyFor L s uMember who) (be6 0 ++ be6 ep) [(119 : UInt8), (114 : UInt8), (97 : UInt8), (112 : UInt8)] b)) w53 rfl (r_move rfl) ?_
    refine EL_val (.bool (decide ((openE (onceL (derT s uMember who) L) (keyFor L s uMember who) (be6 0 ++ be6 ep) [(119 : UInt8), (114 : UInt8), (97 : UInt8), (112 : UInt8)] b) ≠ 0))) w53 rfl (r_neq rfl rfl) ?_
    refine EL_val (.bool (decide ((openE (onceL (derT s uMember who) L) (keyFor L s uMember who) (be6 0 ++ be6 ep) [(119 : UInt8), (114 : UInt8), (97 : UInt8), (112 : UInt8)] b) ≠ 0))) w53 rfl (r_move rfl) ?_
    refine EL_gite 40 rfl rfl rfl v55 rfl (fun g59 => r_move rfl) ?_
    refine EL_gite 40 rfl rfl rfl (.int .i64 ((openB (onceL (derT s uMember who) L) (keyFor L s uMember who) (be6 0 ++ be6 ep) [(119 : UInt8), (114 : UInt8), (97 : UInt8), (112 : UInt8)] b).length : Int)) rfl (fun g60 => lenB (r_len (cond_of g60 rfl) (H58 _ S54.le) Try.underlying23)) ?_
    refine EL_gite 40 rfl rfl rfl (.bool (decide (((openB (onceL (derT s uMember who) L) (keyFor L s uMember who) (be6 0 ++ be6 ep) [(119 : UInt8), (114 : UInt8), (97 : UInt8), (112 : UInt8)] b).length : Int) ≠ 32))) rfl (fun g61 => r_neq (cond_of g61 rfl) rfl) ?_
    refine EL_val (.bool ((decide ((openE (onceL (derT s uMember who) L) (keyFor L s uMember who) (be6 0 ++ be6 ep) [(119 : UInt8), (114 : UInt8), (97 : UInt8), (112 : UInt8)] b) ≠ 0)) || (decide (((openB (onceL (derT s uMember who) L) (keyFor L s uMember who) (be6 0 ++ be6 ep) [(119 : UInt8), (114 : UInt8), (97 : UInt8), (112 : UInt8)] b).length : Int) ≠ 32)))) w53 rfl (r_or rfl rfl rfl) ?_
    refine EL_nil ?_
    refine thn_n ?_
    refine EC_cond (t := (decide ((openE (onceL (derT s uMember who) L) (keyFor L s uMember who) (be6 0 ++ be6 ep) [(119 : UInt8), (114 : UInt8), (97 : UInt8), (112 : UInt8)] b) ≠ 0)) || (decide (((openB (onceL (derT s uMember who) L) (keyFor L s uMember who) (be6 0 ++ be6 ep) [(119 : UInt8), (114 : UInt8), (97 : UInt8), (112 : UInt8)] b).length : Int) ≠ 32))) rfl (fun h62 => ?_) (fun h62 => ?_)
    · have hun := unw_no (L := L) (s := s) (w := who) (e := ep) (b := b) ((Bool.or_eq_true_iff.1 h62).imp (fun h => of_decide_eq_true h) (fun h => of_decide_eq_true h))
      refine EC_seq ?_
      refine EC_reg ?_
      refine EL_val (.slice none 0 0) w53 rfl (r_assign rfl) ?_
      refine EL_val (.int .i64 20) w53 rfl (r_assign rfl) ?_
      refine EL_nil ?_
      refine thn_n ?_
      refine EC_ret ?_
      refine thn_r ?_
      refine fin2 Try.results13 (show _ = .slice none 0 0 from rfl) (show _ = .int .i64 20 from rfl) ⟨_, rfl, ?_⟩
      have q64 : (onceL (derT s uMember who) L) = unwrapL L s who ep := by rw [unwrapL, if_pos hr]
      have S63 : Sat w53 I56 (Suite p (unwrapL L s who ep) :: R) := S54.as 0 rfl (congrArg (fun zz => Suite p zz) q64)
      rw [show unwrapB L s who ep b = [] from by rw [unwrapB, if_pos hr, hun]; rfl]
      exact ⟨(.slice none 0 0), I56, (Gh.le_trans (Gh.le_trans (Gh.le_trans (Gh.le_trans (Gh.le_trans le19 le27) le40) le46) le50) le57), (by rw [unwrapE, if_pos hr, hun]), Ro.nil, S63⟩
    · have hu2 := (Bool.or_eq_false_iff.1 h62)
      have hun := unw_yes (L := L) (s := s) (w := who) (e := ep) (b := b) (Decidable.not_not.mp (of_decide_eq_false hu2.1)) (Decidable.not_not.mp (of_decide_eq_false hu2.2))
      refine EC_skip ?_
      refine thn_n ?_
      refine EC_seq ?_
      refine EC_reg ?_
      refine EL_val v55 w53 rfl (r_move rfl) ?_
      refine EL_val v55 w53 rfl (r_assign rfl) ?_
      refine EL_val (.int .i64 0) w53 rfl (r_assign rfl) ?_
      refine EL_nil ?_
      refine thn_n ?_
      refine EC_ret ?_
      refine fin2 Try.results13 (show _ = v55 from rfl) (show _ = .int .i64 0 from rfl) ⟨_, rfl, ?_⟩
      have q66 : (onceL (derT s uMember who) L) = unwrapL L s who ep := by rw [unwrapL, if_pos hr]
      have S65 : Sat w53 I56 (Suite p (unwrapL L s who ep) :: R) := S54.as 0 rfl (congrArg (fun zz => Suite p zz) q66)
      rw [show unwrapB L s who ep b = openB (onceL (derT s uMember who) L) (keyFor L s uMember who) (be6 0 ++ be6 ep) [(119 : UInt8), (114 : UInt8), (97 : UInt8), (112 : UInt8)] b from by rw [unwrapB, if_pos hr, hun]; rfl]
      exact ⟨v55, I56, (Gh.le_trans (Gh.le_trans (Gh.le_trans (Gh.le_trans (Gh.le_trans le19 le27) le40) le46) le50) le57), (by rw [unwrapE, if_pos hr, hun]), H58, S65⟩

end Go.Proofs.Ytdnlkkgbgjibgaa
