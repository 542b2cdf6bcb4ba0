import Derived.Test.YtdnlkkgbgjibgaaRngA
set_option linter.unusedVariables false
set_option linter.unusedSimpArgs false
namespace Go.Proofs.Ytdnlkkgbgjibgaa
open Go.RowKit Go.Ecal

set_option maxRecDepth 100000 in
set_option maxHeartbeats 4000000 in
theorem Newest_c (p : Value) (ks : List (List UInt8)) (I : Gh) (R : List HP) (w : World) (S : Sat w I (RingP p ks :: R)) (h0 : keyAt ks 0 ≠ []) : Ret Try.prog 22 [p] w fun v w' => ∃ n : Int, .int .i64 n = v ∧ (Newest ks n) ∧ Sat w' I (RingP p ks :: R) := by
  obtain ⟨b, vs, rfl, hk17, hA, S0⟩ := RingP.opn S
  have hvl : vs.length = 17 := hA.len.trans hk17
  refine ret_E Try.func22 rfl Try.ntmps22 (by simp) ?_
  refine EC_seq ?_
  refine EC_reg ?_
  refine EL_val (.int .i64 0) w rfl (r_assign rfl) ?_
  refine EL_nil ?_
  refine thn_n ?_
  refine EC_seq ?_
  refine EC_reg ?_
  refine EL_val (.int .i64 16) w rfl (r_assign rfl) ?_
  refine EL_nil ?_
  refine thn_n ?_
  refine EC_seq ?_
  refine EC_block ?_
  refine EC_loop (fun m' E' w' => ∃ n : Int, m' = n.toNat ∧ E' 3 = .int .i64 n ∧ E' 0 = ptr b ∧ E' 2 = .int .i64 0 ∧ (0 ≤ n ∧ n ≤ 16) ∧ (∀ m, n < m → m ≤ 16 → keyAt ks m = []) ∧ Sat w' I (Blk b 69 vs :: R)) _ ⟨16, rfl, rfl, rfl, rfl, by omega, (fun m h1 h2 => by omega), S0⟩ ?_
  rintro _ E11 w12 ⟨n, rfl, e13, e14, e15, hn, hup, S16⟩
  refine EC_seq ?_
  refine EC_seq ?_
  refine EC_reg ?_
  refine EL_val (ptr b) w12 rfl (r_move (by exact e14)) ?_
  refine EL_val (.int .i64 n) w12 rfl (r_move (by exact e13)) ?_
  refine EL_val (ptr b) w12 rfl (r_nil rfl) ?_
  refine EL_val (ptr b 0) w12 rfl (r_fieldP (o := 0) (s := 17) rfl Try.underlying69 rfl (by kernel_rfl) (by decide) rfl) ?_
  refine EL_val (ptr b (0 + (n : Int).toNat)) w12 rfl (r_indexP (i := n) rfl rfl (by omega) (by omega) Try.underlying67 (by kernel_rfl)) ?_
  obtain ⟨u17, hu18, hc19⟩ := hA.get (keyAt_get (e := n) hk17 (by omega))
  refine EL_val u17 w12 rfl (r_loadA rfl (S16.arr 0 rfl) (u := u17) (by simpa using hu18) Try.underlying23 rfl) ?_
  refine EL_val (.bool ((keyAt ks n).isEmpty)) w12 rfl (r_dec (show (isNil u17) = (keyAt ks n).isEmpty from by rw [hc19.2.2]) (r_eqnil rfl (hc19.2.1 _ S16.le) rfl Try.underlying23)) ?_
  refine EL_nil ?_
  refine thn_n ?_
  refine EC_cond (t := (keyAt ks n).isEmpty) rfl (fun h20 => ?_) (fun h20 => ?_)
  · have hem := h20
    have hn1 : n ≠ 0 := fun h => h0 (by rw [← h]; exact List.isEmpty_iff.1 hem)
    refine EC_skip ?_
    refine thn_n ?_
    refine EC_block ?_
    refine EC_reg ?_
    refine EL_val (.int .i64 n) w12 rfl (r_move (by exact e13)) ?_
    refine EL_int (n - 1) rfl (r_subi rfl rfl (by omega)) ?_
    intro x21 hx21
    refine EL_val (.int .i64 x21) w12 rfl (r_assign rfl) ?_
    refine EL_nil ?_
    refine inB_n ?_
    refine thn_n ?_
    refine ⟨_, ?_, x21, rfl, rfl, (by exact e14), (by exact e15), by omega, (fun m h1 h2 => (Int.lt_or_le n m).elim (fun h => hup m h h2) (fun h => by rw [show m = n by omega]; exact List.isEmpty_iff.1 hem)), S16⟩
    first | omega | (simp; omega)
  · have hem := h20
    refine EC_exit ?_
    refine thn_x ?_
    refine thn_x ?_
    refine inB_hit ?_
    refine thn_n ?_
    refine EC_seq ?_
    refine EC_reg ?_
    refine EL_val (.int .i64 n) w12 rfl (r_move (by exact e13)) ?_
    refine EL_val (.int .i64 n) w12 rfl (r_assign rfl) ?_
    refine EL_nil ?_
    refine thn_n ?_
    refine EC_ret ?_
    refine fin1 Try.results22 (show _ = .int .i64 n from rfl) ⟨_, rfl, ?_⟩
    have S22 : Sat w12 I (RingP (ptr b) ks :: R) := RingP.cls hk17 hA S16
    exact ⟨n, rfl, ⟨hn.1, hn.2, (fun h => by rw [h] at hem; cases hem), hup⟩, S22⟩

set_option maxRecDepth 100000 in
set_option maxHeartbeats 4000000 in
theorem Clone_c (v0 : Value) (l : List UInt8) (I : Gh) (R : List HP) (w : World) (S : Sat w I (R)) (Q0 : RoB I v0 l) (hl : l.length ≤ 100000000000) : Ret Try.prog 35 [v0] w fun v w' => ∃ v1 : Value, v1 = v ∧ (isNil v1 = isNil v0) ∧ Sat w' I (OwnB v1 l :: R) := by
  have lq0 := RoB.le Q0 S.le
  refine ret_E Try.func35 rfl Try.ntmps35 (by simp) ?_
  refine EC_seq ?_
  refine EC_reg ?_
  refine EL_val (.slice none 0 0) w rfl (r_assign rfl) ?_
  refine EL_nil ?_
  refine thn_n ?_
  refine EC_seq ?_
  refine EC_seq ?_
  refine EC_reg ?_
  refine EL_val v0 w rfl (r_move rfl) ?_
  refine EL_val (.bool (isNil v0)) w rfl (r_eqnil rfl (Q0 _ S.le) rfl Try.underlying23) ?_
  refine EL_nil ?_
  refine thn_n ?_
  refine EC_cond (t := isNil v0) rfl (fun h11 => ?_) (fun h11 => ?_)
  · have hnil := h11
    refine EC_seq ?_
    refine EC_reg ?_
    refine EL_val (.slice none 0 0) w rfl (r_assign rfl) ?_
    refine EL_nil ?_
    refine thn_n ?_
    refine EC_ret ?_
    refine thn_r ?_
    refine fin1 Try.results35 (show _ = .slice none 0 0 from rfl) ⟨_, rfl, ?_⟩
    have hl0 : l = [] := by by_cases hl : l = []; exact hl; exact absurd (isNil_of Q0 S.le hl) (by rw [hnil]; decide)
    subst hl0
    have S13 : Sat w I (OwnB (.slice none 0 0) ([] : List UInt8) :: R) := S.nil 5 1
    exact ⟨(.slice none 0 0), rfl, (by rw [hnil]; rfl), S13⟩
  · have hnil := h11
    refine EC_skip ?_
    refine thn_n ?_
    refine EC_seq ?_
    refine EC_reg ?_
    refine EL_lit w.heap.size #[] elB rfl (by decide) rfl (Nat.le_refl _) (by kernel_rfl) ?_
    intro v14 w15 O16 B17 k18 z19
    have S20 : Sat w15 I (OwnB v14 ([] : List UInt8) :: R) := S.newO B17 (own_eq (l := ([] : List UInt8)) O16 (by simp [bof_val, byt]))
    refine EL_val v0 w15 rfl (r_move rfl) ?_
    refine EL_append (v := v14) (xs := ([] : List UInt8).map byt) (ys := l.map byt) 0 elB rfl rfl rfl (own_len (S20.own 0 rfl)) (Q0 _ S20.le) (byt_one _) (by first | (simp only [List.length_map, List.length_nil, List.length_append]; omega) | (simp; done) | (simp; omega)) (by decide) (Nat.zero_le _) ?_
    intro v21 w22 O23 G24 A25
    have S26 : Sat w22 I (OwnB v21 (([] : List UInt8) ++ l) :: R) := S20.grow 0 rfl G24 (own_app O23) A25
    refine EL_val v21 w22 rfl (r_assign rfl) ?_
    refine EL_nil ?_
    refine thn_n ?_
    refine EC_ret ?_
    refine fin1 Try.results35 (show _ = v21 from rfl) ⟨_, rfl, ?_⟩
    exact ⟨v21, rfl, (by rw [hnil]; exact (A25.elim (fun e => isNil_block (e.trans k18)) (fun e => isNil_block e))), S26⟩

set_option maxRecDepth 100000 in
set_option maxHeartbeats 4000000 in
theorem RKey_c (p : Value) (ks : List (List UInt8)) (e : Int) (I : Gh) (R : List HP) (w : World) (S : Sat w I (RingP p ks :: R)) (hsm : ∀ k ∈ ks, k.length ≤ 1000) : Ret Try.prog 21 [p, .int .i64 e] w fun v w' => ∃ v1 : Value, .tuple #[v1, .bool (!(keyAt ks e).isEmpty)] = v ∧ Sat w' I (OwnB v1 (keyAt ks e) :: RingP p ks :: R) := by
  obtain ⟨b, vs, rfl, hk17, hA, S0⟩ := RingP.opn S
  have hvl : vs.length = 17 := hA.len.trans hk17
  refine ret_E Try.func21 rfl Try.ntmps21 (by simp) ?_
  refine EC_seq ?_
  refine EC_reg ?_
  refine EL_val (.slice none 0 0) w rfl (r_assign rfl) ?_
  refine EL_val (.bool false) w rfl (r_assign rfl) ?_
  refine EL_nil ?_
  refine thn_n ?_
  refine EC_seq ?_
  refine EC_seq ?_
  rcases (by omega : (0 ≤ e ∧ e ≤ 16) ∨ e < 0 ∨ 16 < e) with hre | hre | hre
  · refine EC_reg ?_
    refine EL_val (.int .i64 e) w rfl (r_move rfl) ?_
    refine EL_val (.bool false) w rfl (r_dec (show (decide (e < 0)) = false from by simp; omega) (r_lss rfl rfl)) ?_
    refine EL_val (.bool false) w rfl (r_move rfl) ?_
    refine EL_gval 8 rfl rfl rfl rfl (.int .i64 e) w rfl (r_move rfl) ?_
    refine EL_gval 8 rfl rfl rfl rfl (.bool false) w rfl (r_dec (show (decide (16 < e)) = false from by simp; omega) (r_gtr rfl rfl)) ?_
    refine EL_val (.bool false) w rfl (r_pickF rfl rfl) ?_
    refine EL_val (.bool false) w rfl (r_move rfl) ?_
    refine EL_gval 12 rfl rfl rfl rfl (ptr b) w rfl (r_move rfl) ?_
    refine EL_gval 12 rfl rfl rfl rfl (.int .i64 e) w rfl (r_move rfl) ?_
    refine EL_gval 12 rfl rfl rfl rfl (ptr b) w rfl (r_nil rfl) ?_
    refine EL_gval 12 rfl rfl rfl rfl (ptr b 0) w rfl (r_fieldP (o := 0) (s := 17) rfl Try.underlying69 rfl (by kernel_rfl) (by decide) rfl) ?_
    refine EL_gval 12 rfl rfl rfl rfl (ptr b (0 + (e : Int).toNat)) w rfl (r_indexP (i := e) rfl rfl (by omega) (by omega) Try.underlying67 (by kernel_rfl)) ?_
    obtain ⟨u11, hu12, hc13⟩ := hA.get (keyAt_get (e := e) hk17 (by omega))
    refine EL_gval 12 rfl rfl rfl rfl u11 w rfl (r_loadA rfl (S0.arr 0 rfl) (u := u11) (by simpa using hu12) Try.underlying23 rfl) ?_
    refine EL_gval 12 rfl rfl rfl rfl (.bool ((keyAt ks e).isEmpty)) w rfl (r_dec (show (isNil u11) = (keyAt ks e).isEmpty from by rw [hc13.2.2]) (r_eqnil rfl (hc13.2.1 _ S0.le) rfl Try.underlying23)) ?_
    refine EL_val (.bool ((keyAt ks e).isEmpty)) w rfl (r_pickF rfl rfl) ?_
    refine EL_nil ?_
    refine thn_n ?_
    refine EC_cond (t := (keyAt ks e).isEmpty) rfl (fun h14 => ?_) (fun h14 => ?_)
    · have hke : keyAt ks e = [] := List.isEmpty_iff.1 h14
      refine EC_seq ?_
      refine EC_reg ?_
      refine EL_val (.slice none 0 0) w rfl (r_assign rfl) ?_
      refine EL_val (.bool false) w rfl (r_assign rfl) ?_
      refine EL_nil ?_
      refine thn_n ?_
      refine EC_ret ?_
      refine thn_r ?_
      refine fin2 Try.results21 (show _ = .slice none 0 0 from rfl) (show _ = .bool false from rfl) ⟨_, rfl, ?_⟩
      have S15 : Sat w I (RingP (ptr b) ks :: R) := RingP.cls hk17 hA S0
      rw [hke]
      have S17 : Sat w I (OwnB (.slice none 0 0) ([] : List UInt8) :: RingP (ptr b) ks :: R) := S15.nil 5 1
      exact ⟨(.slice none 0 0), rfl, S17⟩
    · have hke : keyAt ks e ≠ [] := fun h => by rw [h] at h14; cases h14
      refine EC_skip ?_
      refine thn_n ?_
      refine EC_seq ?_
      refine EC_reg ?_
      refine EL_val (ptr b) w rfl (r_move rfl) ?_
      refine EL_val (.int .i64 e) w rfl (r_move rfl) ?_
      refine EL_val (ptr b) w rfl (r_nil rfl) ?_
      refine EL_val (ptr b 0) w rfl (r_fieldP (o := 0) (s := 17) rfl Try.underlying69 rfl (by kernel_rfl) (by decide) rfl) ?_
      refine EL_val (ptr b (0 + (e : Int).toNat)) w rfl (r_indexP (i := e) rfl rfl (by omega) (by omega) Try.underlying67 (by kernel_rfl)) ?_
      obtain ⟨u18, hu19, hc20⟩ := hA.get (keyAt_get (e := e) hk17 (by omega))
      refine EL_val u18 w rfl (r_loadA rfl (S0.arr 0 rfl) (u := u18) (by simpa using hu19) Try.underlying23 rfl) ?_
      refine EL_ret _ rfl Try.func35 rfl nm35 rfl (Clone_c u18 (keyAt ks e) I _ _ S0 hc20.2.1 (Nat.le_trans (hsm _ (List.mem_of_getElem? (keyAt_get hk17 hre))) (by decide))) ?_
      rintro _ w21 ⟨v23, rfl, h24, S22⟩
      refine EL_val v23 w21 rfl (r_assign rfl) ?_
      refine EL_val (.bool true) w21 rfl (r_assign rfl) ?_
      refine EL_nil ?_
      refine thn_n ?_
      refine EC_ret ?_
      refine fin2 Try.results21 (show _ = v23 from rfl) (show _ = .bool true from rfl) ⟨_, rfl, ?_⟩
      have S25 : Sat w21 I (Blk b 69 vs :: OwnB v23 (keyAt ks e) :: R) := S22.cons_front (i := 1) rfl
      have S26 : Sat w21 I (RingP (ptr b) ks :: OwnB v23 (keyAt ks e) :: R) := RingP.cls hk17 hA S25
      have S27 : Sat w21 I (RingP (ptr b) ks :: OwnB v23 (keyAt ks e) :: R) := S26.cons_front (i := 0) rfl
      have S28 : Sat w21 I (OwnB v23 (keyAt ks e) :: RingP (ptr b) ks :: R) := S27.cons_front (i := 1) rfl
      exact ⟨v23, (by simp [hke]), S28⟩
  · refine EC_reg ?_
    refine EL_val (.int .i64 e) w rfl (r_move rfl) ?_
    refine EL_val (.bool true) w rfl (r_dec (show (decide (e < 0)) = true from by simp; omega) (r_lss rfl rfl)) ?_
    refine EL_val (.bool true) w rfl (r_move rfl) ?_
    refine EL_pass 8 rfl rfl rfl rfl rfl ?_
    refine EL_pass 8 rfl rfl rfl rfl rfl ?_
    refine EL_val (.bool true) w rfl (r_pickT rfl rfl) ?_
    refine EL_val (.bool true) w rfl (r_move rfl) ?_
    refine EL_pass 12 rfl rfl rfl rfl rfl ?_
    refine EL_pass 12 rfl rfl rfl rfl rfl ?_
    refine EL_pass 12 rfl rfl rfl rfl rfl ?_
    refine EL_pass 12 rfl rfl rfl rfl rfl ?_
    refine EL_pass 12 rfl rfl rfl rfl rfl ?_
    refine EL_pass 12 rfl rfl rfl rfl rfl ?_
    refine EL_pass 12 rfl rfl rfl rfl rfl ?_
    refine EL_val (.bool true) w rfl (r_pickT rfl rfl) ?_
    refine EL_nil ?_
    refine thn_n ?_
    refine EC_cond_true rfl ?_
    refine EC_seq ?_
    refine EC_reg ?_
    refine EL_val (.slice none 0 0) w rfl (r_assign rfl) ?_
    refine EL_val (.bool false) w rfl (r_assign rfl) ?_
    refine EL_nil ?_
    refine thn_n ?_
    refine EC_ret ?_
    refine thn_r ?_
    refine fin2 Try.results21 (show _ = .slice none 0 0 from rfl) (show _ = .bool false from rfl) ⟨_, rfl, ?_⟩
    have S29 : Sat w I (RingP (ptr b) ks :: R) := RingP.cls hk17 hA S0
    have hke : keyAt ks e = [] := if_neg (by omega)
    rw [hke]
    have S31 : Sat w I (OwnB (.slice none 0 0) ([] : List UInt8) :: RingP (ptr b) ks :: R) := S29.nil 5 1
    exact ⟨(.slice none 0 0), rfl, S31⟩
  · refine EC_reg ?_
    refine EL_val (.int .i64 e) w rfl (r_move rfl) ?_
    refine EL_val (.bool false) w rfl (r_dec (show (decide (e < 0)) = false from by simp; omega) (r_lss rfl rfl)) ?_
    refine EL_val (.bool false) w rfl (r_move rfl) ?_
    refine EL_gval 8 rfl rfl rfl rfl (.int .i64 e) w rfl (r_move rfl) ?_
    refine EL_gval 8 rfl rfl rfl rfl (.bool true) w rfl (r_dec (show (decide (16 < e)) = true from by simp; omega) (r_gtr rfl rfl)) ?_
    refine EL_val (.bool true) w rfl (r_pickF rfl rfl) ?_
    refine EL_val (.bool true) w rfl (r_move rfl) ?_
    refine EL_pass 12 rfl rfl rfl rfl rfl ?_
    refine EL_pass 12 rfl rfl rfl rfl rfl ?_
    refine EL_pass 12 rfl rfl rfl rfl rfl ?_
    refine EL_pass 12 rfl rfl rfl rfl rfl ?_
    refine EL_pass 12 rfl rfl rfl rfl rfl ?_
    refine EL_pass 12 rfl rfl rfl rfl rfl ?_
    refine EL_pass 12 rfl rfl rfl rfl rfl ?_
    refine EL_val (.bool true) w rfl (r_pickT rfl rfl) ?_
    refine EL_nil ?_
    refine thn_n ?_
    refine EC_cond_true rfl ?_
    refine EC_seq ?_
    refine EC_reg ?_
    refine EL_val (.slice none 0 0) w rfl (r_assign rfl) ?_
    refine EL_val (.bool false) w rfl (r_assign rfl) ?_
    refine EL_nil ?_
    refine thn_n ?_
    refine EC_ret ?_
    refine thn_r ?_
    refine fin2 Try.results21 (show _ = .slice none 0 0 from rfl) (show _ = .bool false from rfl) ⟨_, rfl, ?_⟩
    have S32 : Sat w I (RingP (ptr b) ks :: R) := RingP.cls hk17 hA S0
    have hke : keyAt ks e = [] := if_neg (by omega)
    rw [hke]
    have S34 : Sat w I (OwnB (.slice none 0 0) ([] : List UInt8) :: RingP (ptr b) ks :: R) := S32.nil 5 1
    exact ⟨(.slice none 0 0), rfl, S34⟩

set_option maxRecDepth 100000 in
set_option maxHeartbeats 4000000 in
theorem Learn_c (p : Value) (ks : List (List UInt8)) (e : Int) (v0 : Value) (k : List UInt8) (I : Gh) (R : List HP) (w : World) (S : Sat w I (RingP p ks :: R)) (Q0 : RoB I v0 k) : Ret Try.prog 20 [p, .int .i64 e, v0] w fun v w' => ∃ J : Gh, Gh.le I J ∧ .int .i64 (learnE ks e k) = v ∧ Sat w' J (RingP p (learnK ks e k) :: R) := by
  have lq0 := RoB.le Q0 S.le
  obtain ⟨b, vs, rfl, hk17, hA, S0⟩ := RingP.opn S
  have hvl : vs.length = 17 := hA.len.trans hk17
  refine ret_E Try.func20 rfl Try.ntmps20 (by simp) ?_
  refine EC_seq ?_
  refine EC_reg ?_
  refine EL_val (.int .i64 0) w rfl (r_assign rfl) ?_
  refine EL_nil ?_
  refine thn_n ?_
  refine EC_seq ?_
  refine EC_block ?_
  refine EC_seq ?_
  rcases (by omega : (1 ≤ e ∧ e ≤ 16) ∨ e < 1 ∨ 16 < e) with hre | hre | hre
  · have hre0 : 0 ≤ e ∧ e ≤ 16 := by omega
    refine EC_reg ?_
    refine EL_val (.int .i64 e) w rfl (r_move rfl) ?_
    refine EL_val (.bool false) w rfl (r_dec (show (decide (e < 1)) = false from by simp; omega) (r_lss rfl rfl)) ?_
    refine EL_val (.bool false) w rfl (r_move rfl) ?_
    refine EL_gval 10 rfl rfl rfl rfl (.int .i64 e) w rfl (r_move rfl) ?_
    refine EL_gval 10 rfl rfl rfl rfl (.bool false) w rfl (r_dec (show (decide (16 < e)) = false from by simp; omega) (r_gtr rfl rfl)) ?_
    refine EL_val (.bool false) w rfl (r_pickF rfl rfl) ?_
    refine EL_val (.bool false) w rfl (r_assign rfl) ?_
    refine EL_nil ?_
    refine thn_n ?_
    refine EC_cond_false rfl ?_
    refine EC_seq ?_
    refine EC_reg ?_
    refine EL_val v0 w rfl (r_move rfl) ?_
    refine EL_val (.int .i64 (k.length : Int)) w rfl (lenB (r_len rfl (Q0 _ S0.le) Try.underlying23)) ?_
    refine EL_val (.bool (decide ((k.length : Int) ≠ 32))) w rfl (r_neq rfl rfl) ?_
    refine EL_val (.bool (decide ((k.length : Int) ≠ 32))) w rfl (r_assign rfl) ?_
    refine EL_nil ?_
    refine thn_n ?_
    refine EC_if (p := (k.length : Int) ≠ 32) rfl (fun h11 => ?_) (fun h11 => ?_)
    · have hk32 : ¬ k.length = 32 := by omega
      refine EC_seq ?_
      refine EC_reg ?_
      refine EL_val (.int .i64 11) w rfl (r_assign rfl) ?_
      refine EL_nil ?_
      refine thn_n ?_
      refine EC_ret ?_
      refine inB_r ?_
      refine thn_r ?_
      refine fin1 Try.results20 (show _ = .int .i64 11 from rfl) ⟨_, rfl, ?_⟩
      have hE : learnE ks e k = 11 := by rw [learnE, if_pos hre, if_neg hk32]
      have S12 : Sat w I (RingP (ptr b) ks :: R) := RingP.cls hk17 hA S0
      rw [show learnK ks e k = ks from by rw [learnK, hE]; rfl]
      exact ⟨I, (Gh.le_refl _), (by rw [hE]), S12⟩
    · have hk32 : k.length = 32 := by omega
      have hnk : isNil v0 = k.isEmpty := by rw [isNil_of Q0 S.le (fun h => by rw [h] at hk32; cases hk32)]; cases k with | nil => cases hk32 | cons a r => rfl
      refine EC_seq ?_
      refine EC_reg ?_
      refine EL_val (ptr b) w rfl (r_move rfl) ?_
      refine EL_val (.int .i64 e) w rfl (r_move rfl) ?_
      refine EL_val (ptr b) w rfl (r_nil rfl) ?_
      refine EL_val (ptr b 0) w rfl (r_fieldP (o := 0) (s := 17) rfl Try.underlying69 rfl (by kernel_rfl) (by decide) rfl) ?_
      refine EL_val (ptr b (0 + (e : Int).toNat)) w rfl (r_indexP (i := e) rfl rfl (by omega) (by omega) Try.underlying67 (by kernel_rfl)) ?_
      obtain ⟨u13, hu14, hc15⟩ := hA.get (keyAt_get (e := e) hk17 (by omega))
      refine EL_val u13 w rfl (r_loadA rfl (S0.arr 0 rfl) (u := u13) (by simpa using hu14) Try.underlying23 rfl) ?_
      refine EL_val (.bool (!((keyAt ks e).isEmpty))) w rfl (r_dec (show (!isNil u13) = !((keyAt ks e).isEmpty) from by rw [hc15.2.2]) (r_neqnil rfl (hc15.2.1 _ S0.le) rfl Try.underlying23)) ?_
      refine EL_val (.bool (!((keyAt ks e).isEmpty))) w rfl (r_assign rfl) ?_
      refine EL_nil ?_
      refine thn_n ?_
      refine EC_cond (t := !((keyAt ks e).isEmpty)) rfl (fun h16 => ?_) (fun h16 => ?_)
      · have hke : ¬ keyAt ks e = [] := fun h => by rw [h] at h16; cases h16
        refine EC_seq ?_
        refine EC_reg ?_
        refine EL_val (.int .i64 31) w rfl (r_assign rfl) ?_
        refine EL_nil ?_
        refine thn_n ?_
        refine EC_ret ?_
        refine inB_r ?_
        refine thn_r ?_
        refine fin1 Try.results20 (show _ = .int .i64 31 from rfl) ⟨_, rfl, ?_⟩
        have hE : learnE ks e k = 31 := by rw [learnE, if_pos hre, if_pos hk32, if_neg (fun h => hke (List.isEmpty_iff.1 h))]
        have S17 : Sat w I (RingP (ptr b) ks :: R) := RingP.cls hk17 hA S0
        rw [show learnK ks e k = ks from by rw [learnK, hE]; rfl]
        exact ⟨I, (Gh.le_refl _), (by rw [hE]), S17⟩
      · have hke : keyAt ks e = [] := List.isEmpty_iff.1 ((Bool.not_eq_false' _).mp h16)
        refine EC_skip ?_
        refine inB_n ?_
        refine thn_n ?_
        refine EC_seq ?_
        refine EC_any 7 (fun w' => Gh.le I (gh w')) (fun w' => True) (by kernel_rfl) ?_
        intro w18 B19
        have S20 : Sat w18 I (Blk b 69 vs :: R) := S0.below B19
        refine EJ_take 0 rfl (by kernel_rfl) (by kernel_rfl) (by kernel_rfl) rfl (by kernel_rfl) (ptr b) rfl (fun _ hw ht => r_move rfl) ⟨S20.le, fun h => trivial⟩ ?_
        refine EJ_take 1 rfl (by kernel_rfl) (by kernel_rfl) (by kernel_rfl) rfl (by kernel_rfl) (.int .i64 e) rfl (fun _ hw ht => r_move rfl) ⟨S20.le, fun h => trivial⟩ ?_
        refine EJ_take 2 rfl (by kernel_rfl) (by kernel_rfl) (by kernel_rfl) rfl (by kernel_rfl) v0 rfl (fun _ hw ht => r_move rfl) ⟨S20.le, fun h => trivial⟩ ?_
        refine EJ_take 4 rfl (by kernel_rfl) (by kernel_rfl) (by kernel_rfl) rfl (by kernel_rfl) (ptr b) rfl (fun _ hw ht => r_nil rfl) ⟨S20.le, fun h => trivial⟩ ?_
        refine EJ_take 5 rfl (by kernel_rfl) (by kernel_rfl) (by kernel_rfl) rfl (by kernel_rfl) (ptr b 0) rfl (fun _ hw ht => r_fieldP (o := 0) (s := 17) rfl Try.underlying69 rfl (by kernel_rfl) (by decide) rfl) ⟨S20.le, fun h => trivial⟩ ?_
        refine EJ_one 3 (by kernel_rfl) ⟨_, rfl, ?_⟩
        refine EL_ret _ rfl Try.func35 rfl nm35 rfl (Clone_c v0 k I _ _ S20 Q0 (by omega)) ?_
        rintro _ w21 ⟨v23, rfl, h24, S22⟩
        refine EL_nil ?_
        refine ⟨rfl, ⟨S22.le, fun h => trivial⟩, ?_⟩
        refine EJ_take 6 rfl (by kernel_rfl) (by kernel_rfl) (by kernel_rfl) rfl (by kernel_rfl) (ptr b (0 + (e : Int).toNat)) rfl (fun _ hw ht => r_indexP (i := e) rfl rfl (by omega) (by omega) Try.underlying67 (by kernel_rfl)) ⟨S22.le, fun h => trivial⟩ ?_
        refine EJ_one 7 (by kernel_rfl) ⟨_, rfl, ?_⟩
        refine EL_storeA (u := v23) rfl rfl (S22.arr 1 rfl) (by first | decide | (simp; omega) | simp) (own_one (S22.own 0 rfl)) (by kernel_rfl) ?_
        intro w25 A26 K27 z28
        have S29 : Sat w25 I (OwnB v23 k :: Blk b 69 (vs.set (0 + (e : Int).toNat) v23) :: R) := S22.wrote 1 rfl K27 A26
        refine EL_nil ?_
        refine ⟨rfl, ⟨S29.le, fun h => by cases h⟩, ?_⟩
        refine EJ_done (by kernel_rfl) ?_
        refine thn_n ?_
        refine EC_seq ?_
        refine EC_reg ?_
        refine EL_val (.int .i64 0) w25 rfl (r_assign rfl) ?_
        refine EL_nil ?_
        refine thn_n ?_
        refine EC_ret ?_
        refine fin1 Try.results20 (show _ = .int .i64 0 from rfl) ⟨_, rfl, ?_⟩
        obtain ⟨I30, le31, S32, H33⟩ : ∃ J : Gh, Gh.le I J ∧ Sat w25 J (Blk b 69 (vs.set (0 + (e : Int).toNat) v23) :: R) ∧ Ro J v23 (k.map byt) := S29.frz 0 rfl
        have hE : learnE ks e k = 0 := by rw [learnE, if_pos hre, if_pos hk32, if_pos (List.isEmpty_iff.2 hke)]
        have hA2 := (hA.imp fun _ _ => cellN.up le31).set (e : Int).toNat (a := v23) (b := k) ⟨(row_one (H33 _ S32.le)), H33, by rw [h24]; exact hnk⟩
        have S34 : Sat w25 I30 (RingP (ptr b) (ks.set e.toNat k) :: R) := RingP.cls (by simpa using hk17) (by simpa using hA2) S32
        have q36 : ks.set e.toNat k = learnK ks e k := by rw [learnK, if_pos hE]
        have S35 : Sat w25 I30 (RingP (ptr b) (learnK ks e k) :: R) := S34.as 0 rfl (congrArg (fun zz => RingP (ptr b) zz) q36)
        exact ⟨I30, le31, (by rw [hE]), S35⟩
  · refine EC_reg ?_
    refine EL_val (.int .i64 e) w rfl (r_move rfl) ?_
    refine EL_val (.bool true) w rfl (r_dec (show (decide (e < 1)) = true from by simp; omega) (r_lss rfl rfl)) ?_
    refine EL_val (.bool true) w rfl (r_move rfl) ?_
    refine EL_pass 10 rfl rfl rfl rfl rfl ?_
    refine EL_pass 10 rfl rfl rfl rfl rfl ?_
    refine EL_val (.bool true) w rfl (r_pickT rfl rfl) ?_
    refine EL_val (.bool true) w rfl (r_assign rfl) ?_
    refine EL_nil ?_
    refine thn_n ?_
    refine EC_cond_true rfl ?_
    refine EC_seq ?_
    refine EC_reg ?_
    refine EL_val (.int .i64 12) w rfl (r_assign rfl) ?_
    refine EL_nil ?_
    refine thn_n ?_
    refine EC_ret ?_
    refine inB_r ?_
    refine thn_r ?_
    refine fin1 Try.results20 (show _ = .int .i64 12 from rfl) ⟨_, rfl, ?_⟩
    have hE : learnE ks e k = 12 := by rw [learnE, if_neg (by omega)]
    have S37 : Sat w I (RingP (ptr b) ks :: R) := RingP.cls hk17 hA S0
    rw [show learnK ks e k = ks from by rw [learnK, hE]; rfl]
    exact ⟨I, (Gh.le_refl _), (by rw [hE]), S37⟩
  · refine EC_reg ?_
    refine EL_val (.int .i64 e) w rfl (r_move rfl) ?_
    refine EL_val (.bool false) w rfl (r_dec (show (decide (e < 1)) = false from by simp; omega) (r_lss rfl rfl)) ?_
    refine EL_val (.bool false) w rfl (r_move rfl) ?_
    refine EL_gval 10 rfl rfl rfl rfl (.int .i64 e) w rfl (r_move rfl) ?_
    refine EL_gval 10 rfl rfl rfl rfl (.bool true) w rfl (r_dec (show (decide (16 < e)) = true from by simp; omega) (r_gtr rfl rfl)) ?_
    refine EL_val (.bool true) w rfl (r_pickF rfl rfl) ?_
    refine EL_val (.bool true) w rfl (r_assign rfl) ?_
    refine EL_nil ?_
    refine thn_n ?_
    refine EC_cond_true rfl ?_
    refine EC_seq ?_
    refine EC_reg ?_
    refine EL_val (.int .i64 12) w rfl (r_assign rfl) ?_
    refine EL_nil ?_
    refine thn_n ?_
    refine EC_ret ?_
    refine inB_r ?_
    refine thn_r ?_
    refine fin1 Try.results20 (show _ = .int .i64 12 from rfl) ⟨_, rfl, ?_⟩
    have hE : learnE ks e k = 12 := by rw [learnE, if_neg (by omega)]
    have S38 : Sat w I (RingP (ptr b) ks :: R) := RingP.cls hk17 hA S0
    rw [show learnK ks e k = ks from by rw [learnK, hE]; rfl]
    exact ⟨I, (Gh.le_refl _), (by rw [hE]), S38⟩

set_option maxRecDepth 100000 in
set_option maxHeartbeats 4000000 in
theorem RNew_c (p : Value) (L : List Thing) (v0 : Value) (s : List UInt8) (I : Gh) (R : List HP) (w : World) (S : Sat w I (Suite p L :: R)) (Q0 : RoB I v0 s) (hl : L.length ≤ 1000000) (hs : s.length ≤ 100000) : Ret Try.prog 19 [p, v0] w fun v w' => ∃ r : Value, ∃ J : Gh, Gh.le I J ∧ r = v ∧ Sat w' J (RingP r (ring0 (keyFor L s uEpoch 0)) :: Suite p (onceL (derT s uEpoch 0) L) :: R) := by
  have lq0 := RoB.le Q0 S.le
  refine ret_E Try.func19 rfl Try.ntmps19 (by simp) ?_
  refine EC_seq ?_
  refine EC_reg ?_
  refine EL_val (.pointer none) w rfl (r_assign rfl) ?_
  refine EL_nil ?_
  refine thn_n ?_
  refine EC_seq ?_
  refine EC_reg ?_
  refine EL_val (.agg ([.slice none 0 0, .slice none 0 0, .slice none 0 0, .slice none 0 0, .slice none 0 0, .slice none 0 0, .slice none 0 0, .slice none 0 0, .slice none 0 0, .slice none 0 0, .slice none 0 0, .slice none 0 0, .slice none 0 0, .slice none 0 0, .slice none 0 0, .slice none 0 0, .slice none 0 0]).toArray) w rfl (r_buildS (l := []) st_69 rfl (Eq.trans (show Instr.fill _ _ [] = _ from fill_end) (by kernel_rfl))) ?_
  refine EL_box [.slice none 0 0, .slice none 0 0, .slice none 0 0, .slice none 0 0, .slice none 0 0, .slice none 0 0, .slice none 0 0, .slice none 0 0, .slice none 0 0, .slice none 0 0, .slice none 0 0, .slice none 0 0, .slice none 0 0, .slice none 0 0, .slice none 0 0, .slice none 0 0, .slice none 0 0] rfl rfl rfl ?_
  intro b11 w12 k13 A14 B15 z16
  have S17 : Sat w12 I (Blk b11 69 [.slice none 0 0, .slice none 0 0, .slice none 0 0, .slice none 0 0, .slice none 0 0, .slice none 0 0, .slice none 0 0, .slice none 0 0, .slice none 0 0, .slice none 0 0, .slice none 0 0, .slice none 0 0, .slice none 0 0, .slice none 0 0, .slice none 0 0, .slice none 0 0, .slice none 0 0] :: Suite p L :: R) := S.newB B15 A14 k13
  refine EL_val (ptr b11) w12 rfl (r_assign rfl) ?_
  refine EL_nil ?_
  refine thn_n ?_
  refine EC_seq ?_
  refine EC_any 7 (fun w' => Gh.le I (gh w')) (fun w' => True) (by kernel_rfl) ?_
  intro w18 B19
  have S20 : Sat w18 I (Blk b11 69 [.slice none 0 0, .slice none 0 0, .slice none 0 0, .slice none 0 0, .slice none 0 0, .slice none 0 0, .slice none 0 0, .slice none 0 0, .slice none 0 0, .slice none 0 0, .slice none 0 0, .slice none 0 0, .slice none 0 0, .slice none 0 0, .slice none 0 0, .slice none 0 0, .slice none 0 0] :: Suite p L :: R) := S17.below B19
  refine EJ_take 0 rfl (by kernel_rfl) (by kernel_rfl) (by kernel_rfl) rfl (by kernel_rfl) (ptr b11) rfl (fun _ hw ht => r_move rfl) ⟨S20.le, fun h => trivial⟩ ?_
  refine EJ_take 1 rfl (by kernel_rfl) (by kernel_rfl) (by kernel_rfl) rfl (by kernel_rfl) p rfl (fun _ hw ht => r_move rfl) ⟨S20.le, fun h => trivial⟩ ?_
  refine EJ_take 2 rfl (by kernel_rfl) (by kernel_rfl) (by kernel_rfl) rfl (by kernel_rfl) v0 rfl (fun _ hw ht => r_move rfl) ⟨S20.le, fun h => trivial⟩ ?_
  refine EJ_take 4 rfl (by kernel_rfl) (by kernel_rfl) (by kernel_rfl) rfl (by kernel_rfl) (ptr b11) rfl (fun _ hw ht => r_nil rfl) ⟨S20.le, fun h => trivial⟩ ?_
  refine EJ_take 5 rfl (by kernel_rfl) (by kernel_rfl) (by kernel_rfl) rfl (by kernel_rfl) (ptr b11 0) rfl (fun _ hw ht => r_fieldP (o := 0) (s := 17) rfl Try.underlying69 rfl (by kernel_rfl) (by decide) rfl) ⟨S20.le, fun h => trivial⟩ ?_
  refine EJ_one 3 (by kernel_rfl) ⟨_, rfl, ?_⟩
  have S21 : Sat w18 I (Suite p L :: Blk b11 69 [.slice none 0 0, .slice none 0 0, .slice none 0 0, .slice none 0 0, .slice none 0 0, .slice none 0 0, .slice none 0 0, .slice none 0 0, .slice none 0 0, .slice none 0 0, .slice none 0 0, .slice none 0 0, .slice none 0 0, .slice none 0 0, .slice none 0 0, .slice none 0 0, .slice none 0 0] :: R) := S20.cons_front (i := 1) rfl
  refine EL_ret _ rfl Try.func30 rfl nm30 rfl (derived_c p L v0 s uEpoch 0 I _ _ S21 Q0 (by first | assumption | omega | (simp; done) | (simp; omega)) (by omega) (by decide) (by first | assumption | omega | (simp; done) | (simp; omega))) ?_
  rintro _ w22 ⟨v24, I25, le26, rfl, S23⟩
  have hnz : isNil v24 = false := isNil_own S23 0 rfl (by rw [keyFor]; simp [signOf])
  refine EL_nil ?_
  refine ⟨rfl, ⟨(Gh.le_trans le26 S23.le), fun h => trivial⟩, ?_⟩
  refine EJ_strong (fun w' => Gh.le I25 (gh w')) _ (fun w' hw => Gh.le_trans le26 hw) (fun w' _ ht => ht) ?_
  refine EJ_take 6 rfl (by kernel_rfl) (by kernel_rfl) (by kernel_rfl) rfl (by kernel_rfl) (ptr b11 0) rfl (fun _ hw ht => r_indexP (i := 0) rfl rfl (by omega) (by omega) Try.underlying67 (by kernel_rfl)) ⟨S23.le, fun h => trivial⟩ ?_
  refine EJ_one 7 (by kernel_rfl) ⟨_, rfl, ?_⟩
  refine EL_storeA (j := 0) (u := v24) rfl rfl (S23.arr 2 rfl) (by first | decide | (simp; omega) | simp) (own_one (S23.own 0 rfl)) (by kernel_rfl) ?_
  intro w27 A28 K29 z30
  have S31 : Sat w27 I25 (OwnB v24 (keyFor L s uEpoch 0) :: Suite p (onceL (derT s uEpoch 0) L) :: Blk b11 69 [v24, .slice none 0 0, .slice none 0 0, .slice none 0 0, .slice none 0 0, .slice none 0 0, .slice none 0 0, .slice none 0 0, .slice none 0 0, .slice none 0 0, .slice none 0 0, .slice none 0 0, .slice none 0 0, .slice none 0 0, .slice none 0 0, .slice none 0 0, .slice none 0 0] :: R) := S23.wrote 2 rfl K29 A28
  refine EL_nil ?_
  refine ⟨rfl, ⟨S31.le, fun h => by cases h⟩, ?_⟩
  refine EJ_done (by kernel_rfl) ?_
  refine thn_n ?_
  refine EC_seq ?_
  refine EC_reg ?_
  refine EL_val (ptr b11) w27 rfl (r_move rfl) ?_
  refine EL_val (ptr b11) w27 rfl (r_assign rfl) ?_
  refine EL_nil ?_
  refine thn_n ?_
  refine EC_ret ?_
  refine fin1 Try.results19 (show _ = ptr b11 from rfl) ⟨_, rfl, ?_⟩
  obtain ⟨I32, le33, S34, H35⟩ : ∃ J : Gh, Gh.le I25 J ∧ Sat w27 J (Suite p (onceL (derT s uEpoch 0) L) :: Blk b11 69 [v24, .slice none 0 0, .slice none 0 0, .slice none 0 0, .slice none 0 0, .slice none 0 0, .slice none 0 0, .slice none 0 0, .slice none 0 0, .slice none 0 0, .slice none 0 0, .slice none 0 0, .slice none 0 0, .slice none 0 0, .slice none 0 0, .slice none 0 0, .slice none 0 0] :: R) ∧ Ro J v24 ((keyFor L s uEpoch 0).map byt) := S31.frz 0 rfl
  have S36 : Sat w27 I32 (Blk b11 69 [v24, .slice none 0 0, .slice none 0 0, .slice none 0 0, .slice none 0 0, .slice none 0 0, .slice none 0 0, .slice none 0 0, .slice none 0 0, .slice none 0 0, .slice none 0 0, .slice none 0 0, .slice none 0 0, .slice none 0 0, .slice none 0 0, .slice none 0 0, .slice none 0 0] :: Suite p (onceL (derT s uEpoch 0) L) :: R) := S34.cons_front (i := 1) rfl
  have hA2 : All2 (cellN I32) (v24 :: List.replicate 16 (.slice none 0 0)) (ring0 (keyFor L s uEpoch 0)) := .cons ⟨(row_one (H35 _ S36.le)), H35, by rw [hnz]; rfl⟩ (All2.rep ⟨rfl, Ro.nil, rfl⟩ 16)
  have S37 : Sat w27 I32 (RingP (ptr b11) (ring0 (keyFor L s uEpoch 0)) :: Suite p (onceL (derT s uEpoch 0) L) :: R) := RingP.cls (by rfl) hA2 S36
  exact ⟨(ptr b11), I32, (Gh.le_trans le26 le33), rfl, S37⟩

end Go.Proofs.Ytdnlkkgbgjibgaa
