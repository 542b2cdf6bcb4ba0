import Derived.Test.YtamjafnjohiccaaWalksR
import Derived.Test.YtamjafnjohiccaaOpr
set_option linter.unusedVariables false
set_option linter.unusedSimpArgs false
namespace Go.Proofs.Ytamjafnjohiccaa
open Go.RowKit Go.Ecal

set_option maxRecDepth 100000 in
set_option maxHeartbeats 4000000 in
theorem small_c (v0 : Value) (ops : List LOp) (most : Int) (I : Gh) (R : List HP) (w : World) (S : Sat w I (R)) (Q0 : RoX I v0 opR ops) (hm : 0 ≤ most ∧ most ≤ 1000) : Ret Try.prog 19 [v0, .int .i64 most] w fun v w' => .bool (smallS ops most) = v ∧ Sat w' I (R) := by
  have lq0 := XRow.le (Q0.row S.le)
  refine ret_E Try.func19 rfl Try.ntmps19 (by simp) ?_
  refine EC_seq ?_
  refine EC_reg ?_
  refine EL_val (.bool false) w rfl (r_assign rfl) ?_
  refine EL_nil ?_
  refine thn_n ?_
  refine EC_seq ?_
  refine EC_seq ?_
  refine EC_reg ?_
  refine EL_val v0 w rfl (r_move rfl) ?_
  refine EL_val (.int .i64 (ops.length : Int)) w rfl (r_lenX rfl (Q0.row S.le) Try.underlying42) ?_
  refine EL_val (.int .i64 0) w rfl (r_move rfl) ?_
  refine EL_nil ?_
  refine thn_n ?_
  refine EC_block ?_
  refine EC_loop (fun m' E' w' => ∃ j : Nat, m' = ops.length - j ∧ E' 9 = .int .i64 (j : Int) ∧ E' 0 = v0 ∧ E' 1 = .int .i64 most ∧ E' 7 = v0 ∧ E' 8 = .int .i64 (ops.length : Int) ∧ (j ≤ ops.length) ∧ (OkTo ops j) ∧ Sat w' I (R)) _ ⟨0, rfl, rfl, rfl, rfl, rfl, rfl, Nat.zero_le _, fun i o h => absurd h (Nat.not_lt_zero _), S⟩ ?_
  rintro _ E11 w12 ⟨j, rfl, e13, e14, e15, e16, e17, hj, hA, S18⟩
  refine EC_seq ?_
  refine EC_reg ?_
  refine EL_val (.bool (decide ((j : Int) < (ops.length : Int)))) w12 rfl (r_lss (by exact e13) (by exact e17)) ?_
  refine EL_nil ?_
  refine thn_n ?_
  refine EC_seq ?_
  refine EC_if (p := (j : Int) < (ops.length : Int)) rfl (fun h19 => ?_) (fun h19 => ?_)
  · refine EC_skip ?_
    refine thn_n ?_
    refine EC_seq ?_
    refine EC_block ?_
    refine EC_seq ?_
    refine EC_reg ?_
    refine EL_val (ptr (blkOf v0) (offOf v0 + ((j : Int) : Int).toNat * 7)) w12 rfl (r_indexX (by exact e16) (Q0.row S18.le) (by exact e13) (by omega) (by first | omega | (simp; omega) | simp) Try.underlying42 (by kernel_rfl)) ?_
    obtain ⟨a20, ha21⟩ := get_some (l := ops) (j := ((j : Int) : Int).toNat) (by first | omega | (simp; omega) | simp)
    obtain ⟨cs22, hc23, he24⟩ := Q0.el ha21
    obtain ⟨v26, v29, v32, v35, rfl, r25, ⟨o27, H28⟩, ⟨o30, H31⟩, ⟨o33, H34⟩, ⟨o36, H37⟩, r38, r39⟩ := hc23
    refine EL_val (.agg ([.int .i64 a20.kind, v26, v29, v32, v35, .int .i64 a20.ref, .int .i64 a20.box]).toArray) w12 rfl (r_loadR (cs := [.int .i64 a20.kind, v26, v29, v32, v35, .int .i64 a20.ref, .int .i64 a20.box]) rfl (he24 _ S18.le) Try.underlying49 rfl (by kernel_rfl)) ?_
    refine EL_alloc (z := .agg #[.int .i64 0, .slice none 0 0, .slice none 0 0, .slice none 0 0, .slice none 0 0, .int .i64 0, .int .i64 0]) [.int .i64 0, .slice none 0 0, .slice none 0 0, .slice none 0 0, .slice none 0 0, .int .i64 0, .int .i64 0] rfl (by kernel_rfl) rfl ?_
    intro b40 w41 k42 A43 B44 z45
    have S46 : Sat w41 I (Blk b40 49 [.int .i64 0, .slice none 0 0, .slice none 0 0, .slice none 0 0, .slice none 0 0, .int .i64 0, .int .i64 0] :: R) := S18.newB B44 A43 k42
    refine EL_storeAll (v := .agg ([.int .i64 a20.kind, v26, v29, v32, v35, .int .i64 a20.ref, .int .i64 a20.box]).toArray) (cs' := ([.int .i64 a20.kind, v26, v29, v32, v35, .int .i64 a20.ref, .int .i64 a20.box]).toArray) rfl rfl rfl (S46.arr 0 rfl) rfl (by kernel_rfl) (ones_cons rfl (ones_cons o27 (ones_cons o30 (ones_cons o33 (ones_cons o36 (ones_cons rfl (ones_cons rfl (fun _ h => nomatch h)))))))) ?_
    intro w47 A48 K49 z50
    have S51 : Sat w47 I (Blk b40 49 [.int .i64 a20.kind, v26, v29, v32, v35, .int .i64 a20.ref, .int .i64 a20.box] :: R) := S46.wrote 0 rfl K49 A48
    refine EL_nil ?_
    refine thn_n ?_
    refine EC_seq ?_
    refine EC_reg ?_
    refine EL_val (ptr b40 1) w47 rfl (r_fieldP (o := 0) (s := 1) rfl Try.underlying49 rfl (by kernel_rfl) (by decide) rfl) ?_
    refine EL_val v26 w47 rfl (r_loadA rfl (S51.arr 0 rfl) (u := v26) rfl Try.underlying22 rfl) ?_
    refine EL_val (.int .i64 (a20.a.length : Int)) w47 rfl (lenB (r_len rfl (H28 _ S51.le) Try.underlying22)) ?_
    refine EL_val (.bool (decide (100 < (a20.a.length : Int)))) w47 rfl (r_gtr rfl rfl) ?_
    refine EL_val (.bool (decide (100 < (a20.a.length : Int)))) w47 rfl (r_move rfl) ?_
    refine EL_gite 17 rfl rfl rfl (ptr b40 2) rfl (fun g52 => r_fieldP (o := 0) (s := 1) rfl Try.underlying49 rfl (by kernel_rfl) (by decide) rfl) ?_
    refine EL_gite 17 rfl rfl rfl v29 rfl (fun g53 => r_loadA (cond_of g53 rfl) (S51.arr 0 rfl) (u := v29) rfl Try.underlying22 rfl) ?_
    refine EL_gite 17 rfl rfl rfl (.int .i64 (a20.b.length : Int)) rfl (fun g54 => lenB (r_len (cond_of g54 rfl) (H31 _ S51.le) Try.underlying22)) ?_
    refine EL_gite 17 rfl rfl rfl (.bool (decide (100 < (a20.b.length : Int)))) rfl (fun g55 => r_gtr (cond_of g55 rfl) rfl) ?_
    refine EL_val (.bool ((decide (100 < (a20.a.length : Int))) || (decide (100 < (a20.b.length : Int))))) w47 rfl (r_or rfl rfl rfl) ?_
    refine EL_val (.bool ((decide (100 < (a20.a.length : Int))) || (decide (100 < (a20.b.length : Int))))) w47 rfl (r_move rfl) ?_
    refine EL_gite 23 rfl rfl rfl (ptr b40 3) rfl (fun g56 => r_fieldP (o := 0) (s := 1) rfl Try.underlying49 rfl (by kernel_rfl) (by decide) rfl) ?_
    refine EL_gite 23 rfl rfl rfl v32 rfl (fun g57 => r_loadA (cond_of g57 rfl) (S51.arr 0 rfl) (u := v32) rfl Try.underlying22 rfl) ?_
    refine EL_gite 23 rfl rfl rfl (.int .i64 (a20.c.length : Int)) rfl (fun g58 => lenB (r_len (cond_of g58 rfl) (H34 _ S51.le) Try.underlying22)) ?_
    refine EL_gite 23 rfl rfl rfl (.bool (decide (100 < (a20.c.length : Int)))) rfl (fun g59 => r_gtr (cond_of g59 rfl) rfl) ?_
    refine EL_val (.bool (((decide (100 < (a20.a.length : Int))) || (decide (100 < (a20.b.length : Int)))) || (decide (100 < (a20.c.length : Int))))) w47 rfl (r_or rfl rfl rfl) ?_
    refine EL_val (.bool (((decide (100 < (a20.a.length : Int))) || (decide (100 < (a20.b.length : Int)))) || (decide (100 < (a20.c.length : Int))))) w47 rfl (r_move rfl) ?_
    refine EL_gite 29 rfl rfl rfl (ptr b40 4) rfl (fun g60 => r_fieldP (o := 0) (s := 1) rfl Try.underlying49 rfl (by kernel_rfl) (by decide) rfl) ?_
    refine EL_gite 29 rfl rfl rfl v35 rfl (fun g61 => r_loadA (cond_of g61 rfl) (S51.arr 0 rfl) (u := v35) rfl Try.underlying22 rfl) ?_
    refine EL_gite 29 rfl rfl rfl (.int .i64 (a20.text.length : Int)) rfl (fun g62 => lenB (r_len (cond_of g62 rfl) (H37 _ S51.le) Try.underlying22)) ?_
    refine EL_gite 29 rfl rfl rfl (.bool (decide (200 < (a20.text.length : Int)))) rfl (fun g63 => r_gtr (cond_of g63 rfl) rfl) ?_
    refine EL_val (.bool ((((decide (100 < (a20.a.length : Int))) || (decide (100 < (a20.b.length : Int)))) || (decide (100 < (a20.c.length : Int)))) || (decide (200 < (a20.text.length : Int))))) w47 rfl (r_or rfl rfl rfl) ?_
    refine EL_nil ?_
    refine thn_n ?_
    refine EC_cond (t := (((decide (100 < (a20.a.length : Int))) || (decide (100 < (a20.b.length : Int)))) || (decide (100 < (a20.c.length : Int)))) || (decide (200 < (a20.text.length : Int)))) rfl (fun h64 => ?_) (fun h64 => ?_)
    · have hbad := small_bad (j := j) (m := most) ha21 (by rw [← Bool.not_eq_true, LOp.ok_iff]; simp at h64; omega)
      refine EC_seq ?_
      refine EC_reg ?_
      refine EL_val (.bool false) w47 rfl (r_assign rfl) ?_
      refine EL_nil ?_
      refine thn_n ?_
      refine EC_ret ?_
      refine inB_r ?_
      refine thn_r ?_
      refine thn_r ?_
      refine inB_r ?_
      refine thn_r ?_
      refine fin1 Try.results19 (show _ = .bool false from rfl) ⟨_, rfl, ?_⟩
      have S65 : Sat w47 I (R) := S51.drop 0 rfl
      exact ⟨(by rw [hbad]), S65⟩
    · have hok : a20.ok = true := by rw [LOp.ok_iff]; simp at h64; omega
      refine EC_skip ?_
      refine inB_n ?_
      refine thn_n ?_
      refine EC_reg ?_
      refine EL_int ((j : Int) + 1) rfl (r_addi (by exact e13) rfl (by omega)) ?_
      intro x66 hx66
      refine EL_val (.int .i64 x66) w47 rfl (r_move rfl) ?_
      refine EL_nil ?_
      refine thn_n ?_
      have S67 : Sat w47 I (R) := S51.drop 0 rfl
      refine ⟨_, ?_, j + 1, rfl, (Eq.trans (show _ = Value.int .i64 x66 from rfl) (congrArg _ (by omega))), (by exact e14), (by exact e15), (by exact e16), (by exact e17), by omega, hA.next ha21 hok, S67⟩
      first | omega | (simp; omega)
  · refine EC_exit ?_
    refine thn_x ?_
    refine thn_x ?_
    refine inB_hit ?_
    refine thn_n ?_
    refine EC_seq ?_
    refine EC_reg ?_
    refine EL_val v0 w12 rfl (r_move (by exact e14)) ?_
    refine EL_val (.int .i64 (ops.length : Int)) w12 rfl (r_lenX rfl (Q0.row S18.le) Try.underlying42) ?_
    refine EL_val (.int .i64 most) w12 rfl (r_move (by exact e15)) ?_
    refine EL_val (.bool (decide ((ops.length : Int) ≤ most))) w12 rfl (r_leq rfl rfl) ?_
    refine EL_val (.bool (decide ((ops.length : Int) ≤ most))) w12 rfl (r_assign rfl) ?_
    refine EL_nil ?_
    refine thn_n ?_
    refine EC_ret ?_
    refine fin1 Try.results19 (show _ = .bool (decide ((ops.length : Int) ≤ most)) from rfl) ⟨_, rfl, ?_⟩
    exact ⟨(by rw [smallS, OkTo.all (by rwa [show ops.length = j by omega])]; simp), S18⟩

end Go.Proofs.Ytamjafnjohiccaa
