import Derived.Test.YtoajodjcmeijgaaGreatQSealedPlaysR9B
set_option linter.unusedVariables false
set_option linter.unusedSimpArgs false
namespace Go.Proofs.YtoajodjcmeijgaaGreat
open Go.RowKit Go.Ecal
theorem same9_f {a b : Entry} (h : (((((((((decide (a.kind ≠ b.kind)) || (decide (a.writer ≠ b.writer))) || (decide (a.seq ≠ b.seq))) || (decide (a.name ≠ b.name))) || (decide (a.value ≠ b.value))) || (decide (a.who ≠ b.who))) || (decide (a.rights ≠ b.rights))) || (decide (a.epoch ≠ b.epoch))) || (decide ((a.wraps.length : Int) ≠ (b.wraps.length : Int)))) = false) :
    a.kind = b.kind ∧ a.writer = b.writer ∧ a.seq = b.seq ∧ a.name = b.name ∧ a.value = b.value ∧ a.who = b.who ∧ a.rights = b.rights ∧ a.epoch = b.epoch ∧ a.wraps.length = b.wraps.length := by
  simp only [Bool.or_eq_false_iff, decide_eq_false_iff_not, ne_eq, Decidable.not_not] at h
  obtain ⟨⟨⟨⟨⟨⟨⟨⟨h1, h2⟩, h3⟩, h4⟩, h5⟩, h6⟩, h7⟩, h8⟩, h9⟩ := h
  exact ⟨h1, h2, h3, h4, h5, h6, h7, h8, by omega⟩
theorem same9_t {a b : Entry} (h : a.kind = b.kind ∧ a.writer = b.writer ∧ a.seq = b.seq ∧ a.name = b.name ∧ a.value = b.value ∧ a.who = b.who ∧ a.rights = b.rights ∧ a.epoch = b.epoch ∧ a.wraps.length = b.wraps.length) (hw : a.wraps = b.wraps) : a = b := by
  obtain ⟨h1, h2, h3, h4, h5, h6, h7, h8, _⟩ := h; exact entry_eq.2 ⟨h1, h2, h3, h4, h5, h6, h7, h8, hw⟩
theorem dec3 (l : List UInt8) : (decOk l = true ∧ rdEnd (rdEntry ⟨l, false⟩).2 = true ∧ (rdEntry ⟨l, false⟩).1.right = true) ∨ (decOk l = false ∧ rdEnd (rdEntry ⟨l, false⟩).2 = false) ∨ (decOk l = false ∧ rdEnd (rdEntry ⟨l, false⟩).2 = true ∧ (rdEntry ⟨l, false⟩).1.right = false) := by
  unfold decOk; cases rdEnd (rdEntry ⟨l, false⟩).2 <;> cases (rdEntry ⟨l, false⟩).1.right <;> simp

set_option maxRecDepth 100000 in
set_option maxHeartbeats 4000000 in
theorem Same9_c (ca : List Value) (cb : List Value) (a : Entry) (b : Entry) (I : Gh) (R : List HP) (w : World) (S : Sat w I (R)) (ha : entR.r I ca a) (hb : entR.r I cb b) : Ret Tryz.prog 16 [.agg ca.toArray, .agg cb.toArray] w fun v w' => .bool (decide (a = b)) = v ∧ Sat w' I (R) := by
  obtain ⟨v14, v17, v23, rfl, r11, r12, r13, ⟨o15, H16⟩, ⟨o18, H19⟩, r20, r21, r22, ⟨o24, H25⟩⟩ := ha
  obtain ⟨v29, v32, v38, rfl, r26, r27, r28, ⟨o30, H31⟩, ⟨o33, H34⟩, r35, r36, r37, ⟨o39, H40⟩⟩ := hb
  refine ret_E Tryz.func16 rfl Tryz.ntmps16 (by simp) ?_
  refine EC_seq (EC_reg ?_)
  refine EL_box (entRC a v14 v17 v23) rfl rfl rfl ?_
  intro b41 w42 k43 A44 B45 z46
  have S47 := S.newB B45 A44 k43
  refine EL_box (entRC b v29 v32 v38) rfl rfl rfl ?_
  intro b48 w49 k50 A51 B52 z53
  have S54 := S47.newB B52 A51 k50
  refine vA (.bool false) rfl rfl (EL_nil (thn_n (EC_seq (EC_seq (EC_reg ?_)))))
  refine vl (ptr b41 0) rfl (fP 0 rfl U51 (by kernel_rfl)) (vL (.int .i64 a.kind) rfl rfl (S54.arr 1 rfl) rfl U3 rfl (vl (ptr b48 0) rfl (fP 0 rfl U51 (by kernel_rfl)) (vL (.int .i64 b.kind) rfl rfl (S54.arr 0 rfl) rfl U3 rfl (vl (.bool (decide (a.kind ≠ b.kind))) rfl (r_neq rfl rfl) (vM (.bool (decide (a.kind ≠ b.kind))) rfl rfl ?_)))))
  refine EL_gite 11 rfl rfl rfl (ptr b41 1) rfl (fun g55 => fP 0 rfl U51 (by kernel_rfl)) (EL_gite 11 rfl rfl rfl (.int .i64 a.writer) rfl (fun g56 => r_loadA (cond_of g56 rfl) (S54.arr 1 rfl) (u := (.int .i64 a.writer)) rfl U3 rfl) (EL_gite 11 rfl rfl rfl (ptr b48 1) rfl (fun g57 => fP 0 rfl U51 (by kernel_rfl)) (EL_gite 11 rfl rfl rfl (.int .i64 b.writer) rfl (fun g58 => r_loadA (cond_of g58 rfl) (S54.arr 0 rfl) (u := (.int .i64 b.writer)) rfl U3 rfl) (EL_gite 11 rfl rfl rfl (.bool (decide (a.writer ≠ b.writer))) rfl (fun g59 => r_neq (cond_of g59 rfl) (cond_of g59 rfl)) (vl (.bool ((decide (a.kind ≠ b.kind)) || (decide (a.writer ≠ b.writer)))) rfl (r_or rfl rfl rfl) ?_)))))
  refine vM (.bool ((decide (a.kind ≠ b.kind)) || (decide (a.writer ≠ b.writer)))) rfl rfl (EL_gite 18 rfl rfl rfl (ptr b41 2) rfl (fun g60 => fP 0 rfl U51 (by kernel_rfl)) (EL_gite 18 rfl rfl rfl (.int .i64 a.seq) rfl (fun g61 => r_loadA (cond_of g61 rfl) (S54.arr 1 rfl) (u := (.int .i64 a.seq)) rfl U3 rfl) (EL_gite 18 rfl rfl rfl (ptr b48 2) rfl (fun g62 => fP 0 rfl U51 (by kernel_rfl)) (EL_gite 18 rfl rfl rfl (.int .i64 b.seq) rfl (fun g63 => r_loadA (cond_of g63 rfl) (S54.arr 0 rfl) (u := (.int .i64 b.seq)) rfl U3 rfl) (EL_gite 18 rfl rfl rfl (.bool (decide (a.seq ≠ b.seq))) rfl (fun g64 => r_neq (cond_of g64 rfl) (cond_of g64 rfl)) ?_)))))
  refine vl (.bool (((decide (a.kind ≠ b.kind)) || (decide (a.writer ≠ b.writer))) || (decide (a.seq ≠ b.seq)))) rfl (r_or rfl rfl rfl) (vM (.bool (((decide (a.kind ≠ b.kind)) || (decide (a.writer ≠ b.writer))) || (decide (a.seq ≠ b.seq)))) rfl rfl (EL_gite 25 rfl rfl rfl (ptr b41 3) rfl (fun g65 => fP 0 rfl U51 (by kernel_rfl)) (EL_gite 25 rfl rfl rfl v14 rfl (fun g66 => r_loadA (cond_of g66 rfl) (S54.arr 1 rfl) (u := v14) rfl U22 rfl) (EL_gite 25 rfl rfl rfl (.string (str a.name)) rfl (fun g67 => r_str (cond_of g67 rfl) (H16 _ S54.le) U22 U5 U9) (EL_gite 25 rfl rfl rfl (ptr b48 3) rfl (fun g68 => fP 0 rfl U51 (by kernel_rfl)) ?_)))))
  refine EL_gite 25 rfl rfl rfl v29 rfl (fun g69 => r_loadA (cond_of g69 rfl) (S54.arr 0 rfl) (u := v29) rfl U22 rfl) (EL_gite 25 rfl rfl rfl (.string (str b.name)) rfl (fun g70 => r_str (cond_of g70 rfl) (H31 _ S54.le) U22 U5 U9) (EL_gite 25 rfl rfl rfl (.bool (decide (a.name ≠ b.name))) rfl (fun g71 => r_neqs (cond_of g71 rfl) (cond_of g71 rfl)) (vl (.bool ((((decide (a.kind ≠ b.kind)) || (decide (a.writer ≠ b.writer))) || (decide (a.seq ≠ b.seq))) || (decide (a.name ≠ b.name)))) rfl (r_or rfl rfl rfl) (vM (.bool ((((decide (a.kind ≠ b.kind)) || (decide (a.writer ≠ b.writer))) || (decide (a.seq ≠ b.seq))) || (decide (a.name ≠ b.name)))) rfl rfl (EL_gite 34 rfl rfl rfl (ptr b41 4) rfl (fun g72 => fP 0 rfl U51 (by kernel_rfl)) ?_)))))
  refine EL_gite 34 rfl rfl rfl v17 rfl (fun g73 => r_loadA (cond_of g73 rfl) (S54.arr 1 rfl) (u := v17) rfl U22 rfl) (EL_gite 34 rfl rfl rfl (.string (str a.value)) rfl (fun g74 => r_str (cond_of g74 rfl) (H19 _ S54.le) U22 U5 U9) (EL_gite 34 rfl rfl rfl (ptr b48 4) rfl (fun g75 => fP 0 rfl U51 (by kernel_rfl)) (EL_gite 34 rfl rfl rfl v32 rfl (fun g76 => r_loadA (cond_of g76 rfl) (S54.arr 0 rfl) (u := v32) rfl U22 rfl) (EL_gite 34 rfl rfl rfl (.string (str b.value)) rfl (fun g77 => r_str (cond_of g77 rfl) (H34 _ S54.le) U22 U5 U9) (EL_gite 34 rfl rfl rfl (.bool (decide (a.value ≠ b.value))) rfl (fun g78 => r_neqs (cond_of g78 rfl) (cond_of g78 rfl)) ?_)))))
  refine vl (.bool (((((decide (a.kind ≠ b.kind)) || (decide (a.writer ≠ b.writer))) || (decide (a.seq ≠ b.seq))) || (decide (a.name ≠ b.name))) || (decide (a.value ≠ b.value)))) rfl (r_or rfl rfl rfl) (vM (.bool (((((decide (a.kind ≠ b.kind)) || (decide (a.writer ≠ b.writer))) || (decide (a.seq ≠ b.seq))) || (decide (a.name ≠ b.name))) || (decide (a.value ≠ b.value)))) rfl rfl (EL_gite 43 rfl rfl rfl (ptr b41 5) rfl (fun g79 => fP 0 rfl U51 (by kernel_rfl)) (EL_gite 43 rfl rfl rfl (.int .i64 a.who) rfl (fun g80 => r_loadA (cond_of g80 rfl) (S54.arr 1 rfl) (u := (.int .i64 a.who)) rfl U3 rfl) (EL_gite 43 rfl rfl rfl (ptr b48 5) rfl (fun g81 => fP 0 rfl U51 (by kernel_rfl)) (EL_gite 43 rfl rfl rfl (.int .i64 b.who) rfl (fun g82 => r_loadA (cond_of g82 rfl) (S54.arr 0 rfl) (u := (.int .i64 b.who)) rfl U3 rfl) ?_)))))
  refine EL_gite 43 rfl rfl rfl (.bool (decide (a.who ≠ b.who))) rfl (fun g83 => r_neq (cond_of g83 rfl) (cond_of g83 rfl)) (vl (.bool ((((((decide (a.kind ≠ b.kind)) || (decide (a.writer ≠ b.writer))) || (decide (a.seq ≠ b.seq))) || (decide (a.name ≠ b.name))) || (decide (a.value ≠ b.value))) || (decide (a.who ≠ b.who)))) rfl (r_or rfl rfl rfl) (vM (.bool ((((((decide (a.kind ≠ b.kind)) || (decide (a.writer ≠ b.writer))) || (decide (a.seq ≠ b.seq))) || (decide (a.name ≠ b.name))) || (decide (a.value ≠ b.value))) || (decide (a.who ≠ b.who)))) rfl rfl (EL_gite 50 rfl rfl rfl (ptr b41 6) rfl (fun g84 => fP 0 rfl U51 (by kernel_rfl)) (EL_gite 50 rfl rfl rfl (.int .i64 a.rights) rfl (fun g85 => r_loadA (cond_of g85 rfl) (S54.arr 1 rfl) (u := (.int .i64 a.rights)) rfl U3 rfl) (EL_gite 50 rfl rfl rfl (ptr b48 6) rfl (fun g86 => fP 0 rfl U51 (by kernel_rfl)) ?_)))))
  refine EL_gite 50 rfl rfl rfl (.int .i64 b.rights) rfl (fun g87 => r_loadA (cond_of g87 rfl) (S54.arr 0 rfl) (u := (.int .i64 b.rights)) rfl U3 rfl) (EL_gite 50 rfl rfl rfl (.bool (decide (a.rights ≠ b.rights))) rfl (fun g88 => r_neq (cond_of g88 rfl) (cond_of g88 rfl)) (vl (.bool (((((((decide (a.kind ≠ b.kind)) || (decide (a.writer ≠ b.writer))) || (decide (a.seq ≠ b.seq))) || (decide (a.name ≠ b.name))) || (decide (a.value ≠ b.value))) || (decide (a.who ≠ b.who))) || (decide (a.rights ≠ b.rights)))) rfl (r_or rfl rfl rfl) (vM (.bool (((((((decide (a.kind ≠ b.kind)) || (decide (a.writer ≠ b.writer))) || (decide (a.seq ≠ b.seq))) || (decide (a.name ≠ b.name))) || (decide (a.value ≠ b.value))) || (decide (a.who ≠ b.who))) || (decide (a.rights ≠ b.rights)))) rfl rfl (EL_gite 57 rfl rfl rfl (ptr b41 7) rfl (fun g89 => fP 0 rfl U51 (by kernel_rfl)) (EL_gite 57 rfl rfl rfl (.int .i64 a.epoch) rfl (fun g90 => r_loadA (cond_of g90 rfl) (S54.arr 1 rfl) (u := (.int .i64 a.epoch)) rfl U3 rfl) ?_)))))
  refine EL_gite 57 rfl rfl rfl (ptr b48 7) rfl (fun g91 => fP 0 rfl U51 (by kernel_rfl)) (EL_gite 57 rfl rfl rfl (.int .i64 b.epoch) rfl (fun g92 => r_loadA (cond_of g92 rfl) (S54.arr 0 rfl) (u := (.int .i64 b.epoch)) rfl U3 rfl) (EL_gite 57 rfl rfl rfl (.bool (decide (a.epoch ≠ b.epoch))) rfl (fun g93 => r_neq (cond_of g93 rfl) (cond_of g93 rfl)) (vl (.bool ((((((((decide (a.kind ≠ b.kind)) || (decide (a.writer ≠ b.writer))) || (decide (a.seq ≠ b.seq))) || (decide (a.name ≠ b.name))) || (decide (a.value ≠ b.value))) || (decide (a.who ≠ b.who))) || (decide (a.rights ≠ b.rights))) || (decide (a.epoch ≠ b.epoch)))) rfl (r_or rfl rfl rfl) (vM (.bool ((((((((decide (a.kind ≠ b.kind)) || (decide (a.writer ≠ b.writer))) || (decide (a.seq ≠ b.seq))) || (decide (a.name ≠ b.name))) || (decide (a.value ≠ b.value))) || (decide (a.who ≠ b.who))) || (decide (a.rights ≠ b.rights))) || (decide (a.epoch ≠ b.epoch)))) rfl rfl (EL_gite 64 rfl rfl rfl (ptr b41 8) rfl (fun g94 => fP 0 rfl U51 (by kernel_rfl)) ?_)))))
  refine EL_gite 64 rfl rfl rfl v23 rfl (fun g95 => r_loadA (cond_of g95 rfl) (S54.arr 1 rfl) (u := v23) rfl U49 rfl) (EL_gite 64 rfl rfl rfl (.int .i64 (a.wraps.length : Int)) rfl (fun g96 => r_lenX (cond_of g96 rfl) (H25.row S54.le) U49) (EL_gite 64 rfl rfl rfl (ptr b48 8) rfl (fun g97 => fP 0 rfl U51 (by kernel_rfl)) (EL_gite 64 rfl rfl rfl v38 rfl (fun g98 => r_loadA (cond_of g98 rfl) (S54.arr 0 rfl) (u := v38) rfl U49 rfl) (EL_gite 64 rfl rfl rfl (.int .i64 (b.wraps.length : Int)) rfl (fun g99 => r_lenX (cond_of g99 rfl) (H40.row S54.le) U49) (EL_gite 64 rfl rfl rfl (.bool (decide ((a.wraps.length : Int) ≠ (b.wraps.length : Int)))) rfl (fun g100 => r_neq (cond_of g100 rfl) (cond_of g100 rfl)) ?_)))))
  refine vl (.bool (((((((((decide (a.kind ≠ b.kind)) || (decide (a.writer ≠ b.writer))) || (decide (a.seq ≠ b.seq))) || (decide (a.name ≠ b.name))) || (decide (a.value ≠ b.value))) || (decide (a.who ≠ b.who))) || (decide (a.rights ≠ b.rights))) || (decide (a.epoch ≠ b.epoch))) || (decide ((a.wraps.length : Int) ≠ (b.wraps.length : Int))))) rfl (r_or rfl rfl rfl) (EL_nil (thn_n ?_))
  refine EC_cond (t := ((((((((decide (a.kind ≠ b.kind)) || (decide (a.writer ≠ b.writer))) || (decide (a.seq ≠ b.seq))) || (decide (a.name ≠ b.name))) || (decide (a.value ≠ b.value))) || (decide (a.who ≠ b.who))) || (decide (a.rights ≠ b.rights))) || (decide (a.epoch ≠ b.epoch))) || (decide ((a.wraps.length : Int) ≠ (b.wraps.length : Int)))) rfl (fun h101 => ?_) (fun h101 => ?_)
  have hne : ¬ a = b := fun h => by subst h; simp at h101
  refine EC_seq (EC_reg (vA (.bool false) rfl rfl (EL_nil (thn_n (EC_ret ?_)))))
  refine thn_r ?_
  refine fin1 Tryz.results16 (show _ = .bool false from rfl) ⟨_, rfl, ?_⟩
  have S102 := S54.dr0
  have S103 := S102.dr0
  exact ⟨(by rw [decide_eq_false hne]), S103⟩
  have heq := same9_f h101
  refine EC_skip (thn_n (EC_seq (EC_seq ?_)))
  have lqa := XRow.le (H25.row S54.le)
  have lqb := XRow.le (H40.row S54.le)
  skip
  refine EC_reg (vA (.int .i64 0) rfl rfl (EL_nil (thn_n (EC_block ?_))))
  refine EC_loop (fun m' E' w' => ∃ j : Nat, m' = a.wraps.length - j ∧ E' 5 = .int .i64 (j : Int) ∧ E' 2 = ptr b41 ∧ E' 3 = ptr b48 ∧ (j ≤ a.wraps.length) ∧ (a.wraps.take j = b.wraps.take j) ∧ Sat w' I (Blk b48 51 (entRC b v29 v32 v38) :: Blk b41 51 (entRC a v14 v17 v23) :: R)) _ ⟨0, rfl, rfl, rfl, rfl, Nat.zero_le _, by simp, S54⟩ ?_
  rintro _ E104 w105 ⟨j, rfl, e106, e107, e108, hj, htk, S109⟩
  refine EC_seq (EC_seq (EC_reg (vM (.int .i64 (j : Int)) rfl e106 (vl (ptr b41 8) rfl (fP 0 (by exact e107) U51 (by kernel_rfl)) (vL v23 rfl rfl (S109.arr 1 rfl) rfl U49 rfl ?_)))))
  refine vl (.int .i64 (a.wraps.length : Int)) rfl (r_lenX rfl (H25.row S109.le) U49) (vl (.bool (decide ((j : Int) < (a.wraps.length : Int)))) rfl (r_lss rfl rfl) (EL_nil (thn_n ?_)))
  refine EC_if (p := (j : Int) < (a.wraps.length : Int)) rfl (fun h110 => ?_) (fun h110 => ?_)
  refine EC_skip (thn_n (EC_seq (EC_block (EC_seq ?_))))
  refine EC_quietB (by kernel_rfl) (by kernel_rfl) ?_
  refine EQ_val (ptr b41 8) rfl (fun _ hw => fP 0 (by exact e107) U51 (by kernel_rfl)) (EQ_val v23 rfl (fun _ hw => r_loadA rfl ((S109.arr 1 rfl).below hw) (u := v23) rfl U49 rfl) (EQ_val (.int .i64 (j : Int)) rfl (fun _ hw => r_move (by exact e106)) (EQ_val (ptr (blkOf v23) (offOf v23 + ((j : Int) : Int).toNat * 2)) rfl (fun _ hw => r_indexX rfl (XRow.below (H25.row S109.le) (hp_below hw)) rfl (by omega) (by first | omega | (simp; omega) | simp) U49 (by kernel_rfl)) (EQ_val (ptr (blkOf v23) (offOf v23 + ((j : Int) : Int).toNat * 2 + 0)) rfl (fun _ hw => r_fieldP (s := 1) rfl U91 rfl (by kernel_rfl) (by decide) rfl) ?_))))
  obtain ⟨a111, ha112⟩ := get_some (l := a.wraps) (j := ((j : Int) : Int).toNat) (by first | omega | (simp; omega) | simp)
  obtain ⟨cs113, hc114, he115⟩ := H25.el ha112
  obtain ⟨v117, rfl, r116, ⟨o118, H119⟩⟩ := hc114
  refine EQ_val (.int .i64 a111.who) rfl (fun _ hw => r_loadF (k := 0) rfl (ElAt.below (he115 _ S109.le) (hp_below hw)) rfl U3 rfl) (EQ_val (ptr b48 8) rfl (fun _ hw => fP 0 (by exact e108) U51 (by kernel_rfl)) (EQ_val v38 rfl (fun _ hw => r_loadA rfl ((S109.arr 0 rfl).below hw) (u := v38) rfl U49 rfl) (EQ_val (.int .i64 (j : Int)) rfl (fun _ hw => r_move (by exact e106)) (EQ_val (ptr (blkOf v38) (offOf v38 + ((j : Int) : Int).toNat * 2)) rfl (fun _ hw => r_indexX rfl (XRow.below (H40.row S109.le) (hp_below hw)) rfl (by omega) (by first | omega | (simp; omega) | simp) U49 (by kernel_rfl)) (EQ_val (ptr (blkOf v38) (offOf v38 + ((j : Int) : Int).toNat * 2 + 0)) rfl (fun _ hw => r_fieldP (s := 1) rfl U91 rfl (by kernel_rfl) (by decide) rfl) ?_)))))
  obtain ⟨a120, ha121⟩ := get_some (l := b.wraps) (j := ((j : Int) : Int).toNat) (by first | omega | (simp; omega) | simp)
  obtain ⟨cs122, hc123, he124⟩ := H40.el ha121
  obtain ⟨v126, rfl, r125, ⟨o127, H128⟩⟩ := hc123
  refine EQ_val (.int .i64 a120.who) rfl (fun _ hw => r_loadF (k := 0) rfl (ElAt.below (he124 _ S109.le) (hp_below hw)) rfl U3 rfl) (EQ_val (.bool (decide (a111.who ≠ a120.who))) rfl (fun _ hw => r_neq rfl rfl) (qM (.bool (decide (a111.who ≠ a120.who))) rfl rfl (EQ_gite 93 rfl rfl rfl (ptr b41 8) rfl (fun g129 _ hw => fP 0 (by exact e107) U51 (by kernel_rfl)) (EQ_gite 93 rfl rfl rfl v23 rfl (fun g130 _ hw => r_loadA (cond_of g130 rfl) ((S109.arr 1 rfl).below hw) (u := v23) rfl U49 rfl) (EQ_gite 93 rfl rfl rfl (.int .i64 (j : Int)) rfl (fun g131 _ hw => r_move (by exact e106)) ?_)))))
  refine EQ_gite 93 rfl rfl rfl (ptr (blkOf v23) (offOf v23 + ((j : Int) : Int).toNat * 2)) rfl (fun g132 _ hw => r_indexX (cond_of g132 rfl) (XRow.below (H25.row S109.le) (hp_below hw)) (cond_of g132 rfl) (by omega) (by first | omega | (simp; omega) | simp) U49 (by kernel_rfl)) (EQ_gite 93 rfl rfl rfl (ptr (blkOf v23) (offOf v23 + ((j : Int) : Int).toNat * 2 + 1)) rfl (fun g133 _ hw => r_fieldP (s := 1) (cond_of g133 rfl) U91 rfl (by kernel_rfl) (by decide) rfl) ?_)
  obtain ⟨cs135, hc136, he137⟩ := H25.el ha112
  obtain ⟨v139, rfl, r138, ⟨o140, H141⟩⟩ := hc136
  refine EQ_gite 93 rfl rfl rfl v139 rfl (fun g134 _ hw => r_loadF (k := 1) (cond_of g134 rfl) (ElAt.below (he137 _ S109.le) (hp_below hw)) rfl U22 rfl) (EQ_gite 93 rfl rfl rfl (.string (str a111.box)) rfl (fun g142 _ hw => r_str (cond_of g142 rfl) ((H141 _ S109.le).below hw) U22 U5 U9) (EQ_gite 93 rfl rfl rfl (ptr b48 8) rfl (fun g143 _ hw => fP 0 (by exact e108) U51 (by kernel_rfl)) (EQ_gite 93 rfl rfl rfl v38 rfl (fun g144 _ hw => r_loadA (cond_of g144 rfl) ((S109.arr 0 rfl).below hw) (u := v38) rfl U49 rfl) (EQ_gite 93 rfl rfl rfl (.int .i64 (j : Int)) rfl (fun g145 _ hw => r_move (by exact e106)) (EQ_gite 93 rfl rfl rfl (ptr (blkOf v38) (offOf v38 + ((j : Int) : Int).toNat * 2)) rfl (fun g146 _ hw => r_indexX (cond_of g146 rfl) (XRow.below (H40.row S109.le) (hp_below hw)) (cond_of g146 rfl) (by omega) (by first | omega | (simp; omega) | simp) U49 (by kernel_rfl)) ?_)))))
  refine EQ_gite 93 rfl rfl rfl (ptr (blkOf v38) (offOf v38 + ((j : Int) : Int).toNat * 2 + 1)) rfl (fun g147 _ hw => r_fieldP (s := 1) (cond_of g147 rfl) U91 rfl (by kernel_rfl) (by decide) rfl) ?_
  obtain ⟨cs149, hc150, he151⟩ := H40.el ha121
  obtain ⟨v153, rfl, r152, ⟨o154, H155⟩⟩ := hc150
  refine EQ_gite 93 rfl rfl rfl v153 rfl (fun g148 _ hw => r_loadF (k := 1) (cond_of g148 rfl) (ElAt.below (he151 _ S109.le) (hp_below hw)) rfl U22 rfl) (EQ_gite 93 rfl rfl rfl (.string (str a120.box)) rfl (fun g156 _ hw => r_str (cond_of g156 rfl) ((H155 _ S109.le).below hw) U22 U5 U9) (EQ_gite 93 rfl rfl rfl (.bool (decide (a111.box ≠ a120.box))) rfl (fun g157 _ hw => r_neqs (cond_of g157 rfl) (cond_of g157 rfl)) (EQ_val (.bool ((decide (a111.who ≠ a120.who)) || (decide (a111.box ≠ a120.box)))) rfl (fun _ hw => r_or rfl rfl rfl) ?_)))
  refine EQ_nil ?_
  intro w158 B159
  have S160 := S109.below B159
  refine thn_n ?_
  refine EC_cond (t := (decide (a111.who ≠ a120.who)) || (decide (a111.box ≠ a120.box))) rfl (fun h161 => ?_) (fun h161 => ?_)
  have hab : ¬ a111 = a120 := fun h => by simp [h] at h161
  refine EC_seq (EC_reg (vA (.bool false) rfl rfl (EL_nil (thn_n (EC_ret ?_)))))
  refine inB_r (thn_r (thn_r (inB_r (thn_r ?_))))
  refine fin1 Tryz.results16 (show _ = .bool false from rfl) ⟨_, rfl, ?_⟩
  have S162 := S160.dr0
  have S163 := S162.dr0
  exact ⟨(by rw [decide_eq_false (fun h => hab (by have h1 := (show a.wraps[j]? = _ from ha112); rw [h] at h1; exact Option.some.inj (h1.symm.trans ha121)))]), S163⟩
  have hab : a111 = a120 := by have h9 := h161; simp only [Bool.or_eq_false_iff, decide_eq_false_iff_not, ne_eq, Decidable.not_not] at h9; exact wrap_eq.2 h9
  refine EC_skip (inB_n (thn_n (EC_reg (vM (.int .i64 (j : Int)) rfl e106 ?_))))
  refine EL_int ((j : Int) + 1) rfl (r_addi rfl rfl (by omega)) ?_
  intro x164 hx164
  refine vA (.int .i64 x164) rfl rfl (EL_nil (thn_n ?_))
  refine ⟨_, ?_, j + 1, rfl, (Eq.trans (show _ = Value.int .i64 x164 from rfl) (congrArg _ (by omega))), (by exact e107), (by exact e108), by omega, (by rw [List.take_add_one, List.take_add_one, htk, (show a.wraps[j]? = _ from ha112), (show b.wraps[j]? = _ from ha121), hab]), S160⟩
  first | omega | (simp; omega)
  refine EC_exit (thn_x (thn_x (inB_hit (thn_n (EC_seq ?_)))))
  refine EC_reg (vA (.bool true) rfl rfl (EL_nil (thn_n (EC_ret ?_))))
  refine fin1 Tryz.results16 (show _ = .bool true from rfl) ⟨_, rfl, ?_⟩
  have S165 := S109.dr0
  have S166 := S165.dr0
  exact ⟨(by rw [decide_eq_true (same9_t heq (by rwa [List.take_of_length_le (by omega), List.take_of_length_le (by omega)] at htk))]), S166⟩

set_option maxRecDepth 100000 in
set_option maxHeartbeats 4000000 in
theorem Rest9_c (b : Nat) (q : Nat) (r : Rd) (k : Int) (w9 : Int) (q9 : Int) (I : Gh) (R : List HP) (w : World) (S : Sat w I (Blk b 51 [.int .i64 k, .int .i64 w9, .int .i64 q9, .slice none 0 0, .slice none 0 0, .int .i64 0, .int .i64 0, .int .i64 0, .slice none 0 0] :: RdQ (ptr q) r :: R)) (hkr : -9223372036854775808 ≤ k ∧ k ≤ 9223372036854775807) (hwr : -9223372036854775808 ≤ w9 ∧ w9 ≤ 9223372036854775807) (hqr : -9223372036854775808 ≤ q9 ∧ q9 ≤ 9223372036854775807) : Ret Tryz.prog 88 [ptr b, ptr q] w fun v w' => ∃ cs : List Value, ∃ J : Gh, Gh.le I J ∧ entR.r J cs ((rdBody k w9 q9 r).1) ∧ Sat w' J (Blk b 51 cs :: RdQ (ptr q) ((rdBody k w9 q9 r).2) :: R) := by
  refine ret_E Tryz.func88 rfl Tryz.ntmps88 (by simp) ?_
  refine EC_seq (EC_reg (vM (ptr b) rfl rfl (vl (ptr b) rfl (r_nil rfl) (vl (ptr b 0) rfl (fP 0 rfl U51 (by kernel_rfl)) (vL (.int .i64 k) rfl rfl (S.arr 0 rfl) rfl U3 rfl ?_)))))
  refine EL_nil (thn_n (EC_block (EC_seq ?_)))
  rcases (by omega : k = 1 ∨ k = 2 ∨ k = 3 ∨ k = 4 ∨ k = 5 ∨ (¬ k = 1 ∧ ¬ k = 2 ∧ ¬ k = 3 ∧ ¬ k = 4 ∧ ¬ k = 5)) with hk | hk | hk | hk | hk | hk
  refine EC_reg (vl (.bool true) rfl (r_dec (show (decide (k = 1)) = true from by rw [decide_eq_true_eq]; omega) (r_eql rfl rfl)) (vA (.bool true) rfl rfl (EL_nil (thn_n ?_))))
  refine EC_cond_true rfl ?_
  refine EC_seq (EC_reg (vM (ptr b) rfl rfl (vM (ptr q) rfl rfl ?_)))
  have S11 := S.fr1
  refine eR rfl F54 rfl (RText8_c (ptr q) r 1 64 I _ _ S11) ?_
  rintro _ w12 ⟨u14, I15, le16, rfl, H17, S13⟩
  refine vl (ptr b) rfl (r_nil rfl) (vl (ptr b 3) rfl (fP 0 rfl U51 (by kernel_rfl)) ?_)
  refine EL_storeA (j := 3) (u := u14) rfl rfl (S13.arr 1 rfl) (by first | decide | (simp; omega) | simp) (row_one (H17 _ S13.le)) (by kernel_rfl) ?_
  intro w18 A19 K20 z21
  have S22 := S13.wr1 (ds := [.int .i64 k, .int .i64 w9, .int .i64 q9, u14, .slice none 0 0, .int .i64 0, .int .i64 0, .int .i64 0, .slice none 0 0]) K20 A19
  refine EL_nil (thn_n (EC_reg (vM (ptr b) rfl rfl (vM (ptr q) rfl rfl ?_))))
  refine eR rfl F54 rfl (RText8_c (ptr q) (rdTxtS r 1 64) 0 512 I15 _ _ S22) ?_
  rintro _ w23 ⟨u25, I26, le27, rfl, H28, S24⟩
  refine vl (ptr b) rfl (r_nil rfl) (vl (ptr b 4) rfl (fP 0 rfl U51 (by kernel_rfl)) ?_)
  refine EL_storeA (j := 4) (u := u25) rfl rfl (S24.arr 1 rfl) (by first | decide | (simp; omega) | simp) (row_one (H28 _ S24.le)) (by kernel_rfl) ?_
  intro w29 A30 K31 z32
  have S33 := S24.wr1 (ds := [.int .i64 k, .int .i64 w9, .int .i64 q9, u14, u25, .int .i64 0, .int .i64 0, .int .i64 0, .slice none 0 0]) K31 A30
  refine EL_nil (inB_n ?_)
  refine fin0n rfl ⟨_, rfl, ?_⟩
  have q35 : rdTxtS (rdTxtS r 1 64) 0 512 = (rdBody k w9 q9 r).2 := by rw [rdBody, if_pos hk]
  have S34 := Sat.ah0 (RdQ (ptr q)) S33 q35
  have q36 : ((rdBody k w9 q9 r).1) = (⟨k, w9, q9, rdTxt r 1 64, rdTxt (rdTxtS r 1 64) 0 512, 0, 0, 0, []⟩ : Entry) := by rw [rdBody, if_pos hk]
  have S37 := S34.fr1
  exact ⟨[.int .i64 k, .int .i64 w9, .int .i64 q9, u14, u25, .int .i64 0, .int .i64 0, .int .i64 0, .slice none 0 0], I26, (lT le16 le27), (by rw [q36]; exact ⟨u14, u25, (.slice none 0 0), rfl, (by first | assumption | (dsimp only; omega)), (by first | assumption | (dsimp only; omega)), (by first | assumption | (dsimp only; omega)), ⟨(row_one (H17 _ (lT le27 S37.le))), (H17.up le27)⟩, ⟨(row_one (H28 _ S37.le)), H28⟩, (by dsimp only; omega), (by dsimp only; omega), (by dsimp only; omega), ⟨rfl, RoX.nil⟩⟩), S37⟩
  refine EC_reg (vl (.bool false) rfl (r_dec (show (decide (k = 1)) = false from by rw [decide_eq_false_iff_not]; omega) (r_eql rfl rfl)) (vA (.bool false) rfl rfl (EL_nil (thn_n ?_))))
  refine EC_cond_false rfl ?_
  refine EC_seq (EC_reg (vl (.bool true) rfl (r_dec (show (decide (k = 2)) = true from by rw [decide_eq_true_eq]; omega) (r_eql rfl rfl)) (vA (.bool true) rfl rfl (EL_nil (thn_n ?_)))))
  refine EC_cond_true rfl ?_
  refine EC_reg (vM (ptr b) rfl rfl (vM (ptr q) rfl rfl ?_))
  have S38 := S.fr1
  refine eR rfl F54 rfl (RText8_c (ptr q) r 1 64 I _ _ S38) ?_
  rintro _ w39 ⟨u41, I42, le43, rfl, H44, S40⟩
  refine vl (ptr b) rfl (r_nil rfl) (vl (ptr b 3) rfl (fP 0 rfl U51 (by kernel_rfl)) ?_)
  refine EL_storeA (j := 3) (u := u41) rfl rfl (S40.arr 1 rfl) (by first | decide | (simp; omega) | simp) (row_one (H44 _ S40.le)) (by kernel_rfl) ?_
  intro w45 A46 K47 z48
  have S49 := S40.wr1 (ds := [.int .i64 k, .int .i64 w9, .int .i64 q9, u41, .slice none 0 0, .int .i64 0, .int .i64 0, .int .i64 0, .slice none 0 0]) K47 A46
  refine EL_nil (inB_n ?_)
  refine fin0n rfl ⟨_, rfl, ?_⟩
  have q51 : rdTxtS r 1 64 = (rdBody k w9 q9 r).2 := by rw [rdBody, if_neg (by omega), if_pos hk]
  have S50 := Sat.ah0 (RdQ (ptr q)) S49 q51
  have q52 : ((rdBody k w9 q9 r).1) = (⟨k, w9, q9, rdTxt r 1 64, [], 0, 0, 0, []⟩ : Entry) := by rw [rdBody, if_neg (by omega), if_pos hk]
  have S53 := S50.fr1
  exact ⟨[.int .i64 k, .int .i64 w9, .int .i64 q9, u41, .slice none 0 0, .int .i64 0, .int .i64 0, .int .i64 0, .slice none 0 0], I42, le43, (by rw [q52]; exact ⟨u41, (.slice none 0 0), (.slice none 0 0), rfl, (by first | assumption | (dsimp only; omega)), (by first | assumption | (dsimp only; omega)), (by first | assumption | (dsimp only; omega)), ⟨(row_one (H44 _ S53.le)), H44⟩, ⟨rfl, Ro.nil⟩, (by dsimp only; omega), (by dsimp only; omega), (by dsimp only; omega), ⟨rfl, RoX.nil⟩⟩), S53⟩
  refine EC_reg (vl (.bool false) rfl (r_dec (show (decide (k = 1)) = false from by rw [decide_eq_false_iff_not]; omega) (r_eql rfl rfl)) (vA (.bool false) rfl rfl (EL_nil (thn_n ?_))))
  refine EC_cond_false rfl ?_
  refine EC_seq (EC_reg (vl (.bool false) rfl (r_dec (show (decide (k = 2)) = false from by rw [decide_eq_false_iff_not]; omega) (r_eql rfl rfl)) (vA (.bool false) rfl rfl (EL_nil (thn_n ?_)))))
  refine EC_cond_false rfl ?_
  refine EC_seq (EC_reg (vl (.bool true) rfl (r_dec (show (decide (k = 3)) = true from by rw [decide_eq_true_eq]; omega) (r_eql rfl rfl)) (vA (.bool true) rfl rfl (EL_nil (thn_n ?_)))))
  refine EC_cond_true rfl ?_
  refine EC_seq (EC_reg (vM (ptr b) rfl rfl (vM (ptr q) rfl rfl ?_)))
  have S54 := S.fr1
  refine eR rfl F87 rfl (RNum8_c (ptr q) r 1 16 I _ _ S54) ?_
  rintro _ w55 ⟨rfl, S56⟩
  have hn57 := rdNum_rng r 1 (hi := 16) (by omega)
  refine vl (ptr b) rfl (r_nil rfl) (vl (ptr b 5) rfl (fP 0 rfl U51 (by kernel_rfl)) ?_)
  refine EL_storeA (j := 5) (u := .int .i64 (rdNum r 1 16)) rfl rfl (S56.arr 1 rfl) (by first | decide | (simp; omega) | simp) rfl (by kernel_rfl) ?_
  intro w58 A59 K60 z61
  have S62 := S56.wr1 (ds := [.int .i64 k, .int .i64 w9, .int .i64 q9, .slice none 0 0, .slice none 0 0, .int .i64 (rdNum r 1 16), .int .i64 0, .int .i64 0, .slice none 0 0]) K60 A59
  refine EL_nil (thn_n (EC_reg (vM (ptr b) rfl rfl (vM (ptr q) rfl rfl ?_))))
  refine eR rfl F87 rfl (RNum8_c (ptr q) (rdNumS r 1 16) 1 7 I _ _ S62) ?_
  rintro _ w63 ⟨rfl, S64⟩
  have hn65 := rdNum_rng (rdNumS r 1 16) 1 (hi := 7) (by omega)
  refine vl (ptr b) rfl (r_nil rfl) (vl (ptr b 6) rfl (fP 0 rfl U51 (by kernel_rfl)) ?_)
  refine EL_storeA (j := 6) (u := .int .i64 (rdNum (rdNumS r 1 16) 1 7)) rfl rfl (S64.arr 1 rfl) (by first | decide | (simp; omega) | simp) rfl (by kernel_rfl) ?_
  intro w66 A67 K68 z69
  have S70 := S64.wr1 (ds := [.int .i64 k, .int .i64 w9, .int .i64 q9, .slice none 0 0, .slice none 0 0, .int .i64 (rdNum r 1 16), .int .i64 (rdNum (rdNumS r 1 16) 1 7), .int .i64 0, .slice none 0 0]) K68 A67
  refine EL_nil (inB_n ?_)
  refine fin0n rfl ⟨_, rfl, ?_⟩
  have q72 : rdNumS (rdNumS r 1 16) 1 7 = (rdBody k w9 q9 r).2 := by rw [rdBody, if_neg (by omega), if_neg (by omega), if_pos hk]
  have S71 := Sat.ah0 (RdQ (ptr q)) S70 q72
  have q73 : ((rdBody k w9 q9 r).1) = (⟨k, w9, q9, [], [], rdNum r 1 16, rdNum (rdNumS r 1 16) 1 7, 0, []⟩ : Entry) := by rw [rdBody, if_neg (by omega), if_neg (by omega), if_pos hk]
  have S74 := S71.fr1
  exact ⟨[.int .i64 k, .int .i64 w9, .int .i64 q9, .slice none 0 0, .slice none 0 0, .int .i64 (rdNum r 1 16), .int .i64 (rdNum (rdNumS r 1 16) 1 7), .int .i64 0, .slice none 0 0], I, (Gh.le_refl _), (by rw [q73]; exact ⟨(.slice none 0 0), (.slice none 0 0), (.slice none 0 0), rfl, (by first | assumption | (dsimp only; omega)), (by first | assumption | (dsimp only; omega)), (by first | assumption | (dsimp only; omega)), ⟨rfl, Ro.nil⟩, ⟨rfl, Ro.nil⟩, (by first | assumption | (dsimp only; omega)), (by first | assumption | (dsimp only; omega)), (by dsimp only; omega), ⟨rfl, RoX.nil⟩⟩), S74⟩
  refine EC_reg (vl (.bool false) rfl (r_dec (show (decide (k = 1)) = false from by rw [decide_eq_false_iff_not]; omega) (r_eql rfl rfl)) (vA (.bool false) rfl rfl (EL_nil (thn_n ?_))))
  refine EC_cond_false rfl ?_
  refine EC_seq (EC_reg (vl (.bool false) rfl (r_dec (show (decide (k = 2)) = false from by rw [decide_eq_false_iff_not]; omega) (r_eql rfl rfl)) (vA (.bool false) rfl rfl (EL_nil (thn_n ?_)))))
  refine EC_cond_false rfl ?_
  refine EC_seq (EC_reg (vl (.bool false) rfl (r_dec (show (decide (k = 3)) = false from by rw [decide_eq_false_iff_not]; omega) (r_eql rfl rfl)) (vA (.bool false) rfl rfl (EL_nil (thn_n ?_)))))
  refine EC_cond_false rfl ?_
  refine EC_seq (EC_reg (vl (.bool true) rfl (r_dec (show (decide (k = 4)) = true from by rw [decide_eq_true_eq]; omega) (r_eql rfl rfl)) (vA (.bool true) rfl rfl (EL_nil (thn_n ?_)))))
  refine EC_cond_true rfl ?_
  refine EC_reg (vM (ptr b) rfl rfl (vM (ptr q) rfl rfl ?_))
  have S75 := S.fr1
  refine eR rfl F87 rfl (RNum8_c (ptr q) r 1 16 I _ _ S75) ?_
  rintro _ w76 ⟨rfl, S77⟩
  have hn78 := rdNum_rng r 1 (hi := 16) (by omega)
  refine vl (ptr b) rfl (r_nil rfl) (vl (ptr b 5) rfl (fP 0 rfl U51 (by kernel_rfl)) ?_)
  refine EL_storeA (j := 5) (u := .int .i64 (rdNum r 1 16)) rfl rfl (S77.arr 1 rfl) (by first | decide | (simp; omega) | simp) rfl (by kernel_rfl) ?_
  intro w79 A80 K81 z82
  have S83 := S77.wr1 (ds := [.int .i64 k, .int .i64 w9, .int .i64 q9, .slice none 0 0, .slice none 0 0, .int .i64 (rdNum r 1 16), .int .i64 0, .int .i64 0, .slice none 0 0]) K81 A80
  refine EL_nil (inB_n ?_)
  refine fin0n rfl ⟨_, rfl, ?_⟩
  have q85 : rdNumS r 1 16 = (rdBody k w9 q9 r).2 := by rw [rdBody, if_neg (by omega), if_neg (by omega), if_neg (by omega), if_pos hk]
  have S84 := Sat.ah0 (RdQ (ptr q)) S83 q85
  have q86 : ((rdBody k w9 q9 r).1) = (⟨k, w9, q9, [], [], rdNum r 1 16, 0, 0, []⟩ : Entry) := by rw [rdBody, if_neg (by omega), if_neg (by omega), if_neg (by omega), if_pos hk]
  have S87 := S84.fr1
  exact ⟨[.int .i64 k, .int .i64 w9, .int .i64 q9, .slice none 0 0, .slice none 0 0, .int .i64 (rdNum r 1 16), .int .i64 0, .int .i64 0, .slice none 0 0], I, (Gh.le_refl _), (by rw [q86]; exact ⟨(.slice none 0 0), (.slice none 0 0), (.slice none 0 0), rfl, (by first | assumption | (dsimp only; omega)), (by first | assumption | (dsimp only; omega)), (by first | assumption | (dsimp only; omega)), ⟨rfl, Ro.nil⟩, ⟨rfl, Ro.nil⟩, (by first | assumption | (dsimp only; omega)), (by dsimp only; omega), (by dsimp only; omega), ⟨rfl, RoX.nil⟩⟩), S87⟩
  refine EC_reg (vl (.bool false) rfl (r_dec (show (decide (k = 1)) = false from by rw [decide_eq_false_iff_not]; omega) (r_eql rfl rfl)) (vA (.bool false) rfl rfl (EL_nil (thn_n ?_))))
  refine EC_cond_false rfl ?_
  refine EC_seq (EC_reg (vl (.bool false) rfl (r_dec (show (decide (k = 2)) = false from by rw [decide_eq_false_iff_not]; omega) (r_eql rfl rfl)) (vA (.bool false) rfl rfl (EL_nil (thn_n ?_)))))
  refine EC_cond_false rfl ?_
  refine EC_seq (EC_reg (vl (.bool false) rfl (r_dec (show (decide (k = 3)) = false from by rw [decide_eq_false_iff_not]; omega) (r_eql rfl rfl)) (vA (.bool false) rfl rfl (EL_nil (thn_n ?_)))))
  refine EC_cond_false rfl ?_
  refine EC_seq (EC_reg (vl (.bool false) rfl (r_dec (show (decide (k = 4)) = false from by rw [decide_eq_false_iff_not]; omega) (r_eql rfl rfl)) (vA (.bool false) rfl rfl (EL_nil (thn_n ?_)))))
  refine EC_cond_false rfl ?_
  refine EC_seq (EC_reg (vl (.bool true) rfl (r_dec (show (decide (k = 5)) = true from by rw [decide_eq_true_eq]; omega) (r_eql rfl rfl)) (vA (.bool true) rfl rfl (EL_nil (thn_n ?_)))))
  refine EC_cond_true rfl ?_
  refine EC_seq (EC_reg (vM (ptr b) rfl rfl (vM (ptr q) rfl rfl ?_)))
  have S88 := S.fr1
  refine eR rfl F87 rfl (RNum8_c (ptr q) r 1 16 I _ _ S88) ?_
  rintro _ w89 ⟨rfl, S90⟩
  have hn91 := rdNum_rng r 1 (hi := 16) (by omega)
  refine vl (ptr b) rfl (r_nil rfl) (vl (ptr b 7) rfl (fP 0 rfl U51 (by kernel_rfl)) ?_)
  refine EL_storeA (j := 7) (u := .int .i64 (rdNum r 1 16)) rfl rfl (S90.arr 1 rfl) (by first | decide | (simp; omega) | simp) rfl (by kernel_rfl) ?_
  intro w92 A93 K94 z95
  have S96 := S90.wr1 (ds := [.int .i64 k, .int .i64 w9, .int .i64 q9, .slice none 0 0, .slice none 0 0, .int .i64 0, .int .i64 0, .int .i64 (rdNum r 1 16), .slice none 0 0]) K94 A93
  refine EL_nil (thn_n (EC_seq (EC_reg (vM (ptr q) rfl rfl ?_))))
  refine eR rfl F87 rfl (RNum8_c (ptr q) (rdNumS r 1 16) 0 16 I _ _ S96) ?_
  rintro _ w97 ⟨rfl, S98⟩
  have hn99 := rdNum_rng (rdNumS r 1 16) 0 (hi := 16) (by omega)
  refine vA (.int .i64 (rdNum (rdNumS r 1 16) 0 16)) rfl rfl (EL_nil (thn_n (EC_seq (EC_reg (vA (.int .i64 0) rfl rfl ?_)))))
  refine EL_nil (thn_n (EC_block ?_))
  have S100 : Sat w97 I (OwnX 91 wrapR (.slice none 0 0) [] :: RdQ (ptr q) (rdNumS (rdNumS r 1 16) 0 16) :: Blk b 51 [.int .i64 k, .int .i64 w9, .int .i64 q9, .slice none 0 0, .slice none 0 0, .int .i64 0, .int .i64 0, .int .i64 (rdNum r 1 16), .slice none 0 0] :: R) := OwnX.nil S98 91 wrapR
  have S101 := S100.fr1
  have S102 := S101.fr1
  have S103 := S102.fr2
  refine EC_loop (fun m' E' w' => ∃ j : Nat, ∃ r9 : Rd, ∃ wv : Value, ∃ ws : List WrapT, ∃ J : Gh, m' = (rdNum (rdNumS r 1 16) 0 16).toNat - j ∧ E' 5 = .int .i64 (j : Int) ∧ E' 0 = ptr b ∧ E' 1 = ptr q ∧ E' 4 = .int .i64 (rdNum (rdNumS r 1 16) 0 16) ∧ (rdWraps ((rdNum (rdNumS r 1 16) 0 16).toNat - j) r9 ws = rdWraps (rdNum (rdNumS r 1 16) 0 16).toNat (rdNumS (rdNumS r 1 16) 0 16) []) ∧ (j ≤ (rdNum (rdNumS r 1 16) 0 16).toNat) ∧ (ws.length = j) ∧ Gh.le I J ∧ Sat w' J (Blk b 51 [.int .i64 k, .int .i64 w9, .int .i64 q9, .slice none 0 0, .slice none 0 0, .int .i64 0, .int .i64 0, .int .i64 (rdNum r 1 16), wv] :: OwnX 91 wrapR wv ws :: RdQ (ptr q) r9 :: R)) _ ⟨0, rdNumS (rdNumS r 1 16) 0 16, .slice none 0 0, [], I, rfl, rfl, rfl, rfl, rfl, (by rw [Nat.sub_zero]), (by omega), rfl, (Gh.le_refl _), S103⟩ ?_
  rintro _ E104 w105 ⟨j, r9, wv, ws, I106, rfl, e107, e108, e109, e110, hr, hj, hws, le111, S112⟩
  refine EC_seq (EC_seq ?_)
  have S113 := S112.fr2
  obtain ⟨v114, B115, t116, o117, ha118, hB119, hr120, H121, S122⟩ := RdQ.at S113
  rcases dl3 ((rdNum (rdNumS r 1 16) 0 16).toNat - j) r9.bad with hq | hq | hq
  have hx : rdWraps (rdNum (rdNumS r 1 16) 0 16).toNat (rdNumS (rdNumS r 1 16) 0 16) [] = (ws, r9) := by rw [← hr, hq]; rfl
  refine EC_reg (vM (.int .i64 (j : Int)) rfl e107 (vM (.int .i64 (rdNum (rdNumS r 1 16) 0 16)) rfl e110 (vl (.bool false) rfl (r_dec (show (decide ((j : Int) < (rdNum (rdNumS r 1 16) 0 16))) = false from by simp; omega) (r_lss rfl rfl)) (vM (.bool false) rfl rfl (EL_pass 61 rfl rfl rfl rfl rfl ?_)))))
  refine EL_pass 61 rfl rfl rfl rfl rfl (EL_pass 61 rfl rfl rfl rfl rfl (EL_pass 61 rfl rfl rfl rfl rfl (EL_pass 61 rfl rfl rfl rfl rfl (vF (.bool false) rfl rfl rfl (EL_nil ?_)))))
  refine thn_n ?_
  refine EC_cond_false rfl ?_
  refine EC_exit (thn_x (thn_x (inB_hit (inB_n ?_))))
  refine fin0n rfl ⟨_, rfl, ?_⟩
  have S123 := RdQ.cls (r := r9) t116 o117 H121 hB119 rfl ha118 (rd_eq hr120 rfl) S122
  have q125 : r9 = (rdBody k w9 q9 r).2 := by rw [rdBody, if_neg (by omega), if_neg (by omega), if_neg (by omega), if_neg (by omega), if_pos hk]; dsimp only; rw [hx]
  have S124 := Sat.ah0 (RdQ (ptr q)) S123 q125
  have oH129 := (OwnX.one S124 2 rfl (by decide))
  obtain ⟨I126, le127, S128, H129⟩ := S124.fx2 (by decide)
  have q130 : ((rdBody k w9 q9 r).1) = (⟨k, w9, q9, [], [], 0, 0, rdNum r 1 16, ws⟩ : Entry) := by rw [rdBody, if_neg (by omega), if_neg (by omega), if_neg (by omega), if_neg (by omega), if_pos hk]; dsimp only; rw [hx]
  have S131 := S128.fr1
  exact ⟨[.int .i64 k, .int .i64 w9, .int .i64 q9, .slice none 0 0, .slice none 0 0, .int .i64 0, .int .i64 0, .int .i64 (rdNum r 1 16), wv], I126, (lT le111 le127), (by rw [q130]; exact ⟨(.slice none 0 0), (.slice none 0 0), wv, rfl, (by first | assumption | (dsimp only; omega)), (by first | assumption | (dsimp only; omega)), (by first | assumption | (dsimp only; omega)), ⟨rfl, Ro.nil⟩, ⟨rfl, Ro.nil⟩, (by dsimp only; omega), (by dsimp only; omega), (by first | assumption | (dsimp only; omega)), ⟨oH129, H129⟩⟩), S131⟩
  have hx : rdWraps (rdNum (rdNumS r 1 16) 0 16).toNat (rdNumS (rdNumS r 1 16) 0 16) [] = (ws, r9) := by rw [← hr]; exact rdw_bad hq.2
  refine EC_reg (vM (.int .i64 (j : Int)) rfl e107 (vM (.int .i64 (rdNum (rdNumS r 1 16) 0 16)) rfl e110 (vl (.bool true) rfl (r_dec (show (decide ((j : Int) < (rdNum (rdNumS r 1 16) 0 16))) = true from by simp; omega) (r_lss rfl rfl)) (vM (.bool true) rfl rfl (gM  61 rfl rfl rfl rfl (ptr q) rfl e109 ?_)))))
  refine gl  61 rfl rfl rfl rfl (ptr q) rfl (r_nil rfl) (gl  61 rfl rfl rfl rfl (ptr q 2) rfl (fP 0 rfl U100 (by kernel_rfl)) (gl  61 rfl rfl rfl rfl (.bool true) rfl (r_dec (show (r9.bad) = true from hq.2) (r_loadA rfl (S122.arr 0 rfl) (u := (.bool r9.bad)) rfl U4 rfl)) (gl  61 rfl rfl rfl rfl (.bool false) rfl (r_dec (show (!true) = false from rfl) (r_not rfl)) (vT (.bool false) rfl rfl rfl (EL_nil ?_)))))
  refine thn_n ?_
  refine EC_cond_false rfl ?_
  refine EC_exit (thn_x (thn_x (inB_hit (inB_n ?_))))
  refine fin0n rfl ⟨_, rfl, ?_⟩
  have S132 := RdQ.cls (r := r9) t116 o117 H121 hB119 rfl ha118 (rd_eq hr120 rfl) S122
  have q134 : r9 = (rdBody k w9 q9 r).2 := by rw [rdBody, if_neg (by omega), if_neg (by omega), if_neg (by omega), if_neg (by omega), if_pos hk]; dsimp only; rw [hx]
  have S133 := Sat.ah0 (RdQ (ptr q)) S132 q134
  have oH138 := (OwnX.one S133 2 rfl (by decide))
  obtain ⟨I135, le136, S137, H138⟩ := S133.fx2 (by decide)
  have q139 : ((rdBody k w9 q9 r).1) = (⟨k, w9, q9, [], [], 0, 0, rdNum r 1 16, ws⟩ : Entry) := by rw [rdBody, if_neg (by omega), if_neg (by omega), if_neg (by omega), if_neg (by omega), if_pos hk]; dsimp only; rw [hx]
  have S140 := S137.fr1
  exact ⟨[.int .i64 k, .int .i64 w9, .int .i64 q9, .slice none 0 0, .slice none 0 0, .int .i64 0, .int .i64 0, .int .i64 (rdNum r 1 16), wv], I135, (lT le111 le136), (by rw [q139]; exact ⟨(.slice none 0 0), (.slice none 0 0), wv, rfl, (by first | assumption | (dsimp only; omega)), (by first | assumption | (dsimp only; omega)), (by first | assumption | (dsimp only; omega)), ⟨rfl, Ro.nil⟩, ⟨rfl, Ro.nil⟩, (by dsimp only; omega), (by dsimp only; omega), (by first | assumption | (dsimp only; omega)), ⟨oH138, H138⟩⟩), S140⟩
  refine EC_reg (vM (.int .i64 (j : Int)) rfl e107 (vM (.int .i64 (rdNum (rdNumS r 1 16) 0 16)) rfl e110 (vl (.bool true) rfl (r_dec (show (decide ((j : Int) < (rdNum (rdNumS r 1 16) 0 16))) = true from by simp; omega) (r_lss rfl rfl)) (vM (.bool true) rfl rfl (gM  61 rfl rfl rfl rfl (ptr q) rfl e109 ?_)))))
  refine gl  61 rfl rfl rfl rfl (ptr q) rfl (r_nil rfl) (gl  61 rfl rfl rfl rfl (ptr q 2) rfl (fP 0 rfl U100 (by kernel_rfl)) (gl  61 rfl rfl rfl rfl (.bool false) rfl (r_dec (show (r9.bad) = false from hq.2) (r_loadA rfl (S122.arr 0 rfl) (u := (.bool r9.bad)) rfl U4 rfl)) (gl  61 rfl rfl rfl rfl (.bool true) rfl (r_dec (show (!false) = true from rfl) (r_not rfl)) (vT (.bool true) rfl rfl rfl (EL_nil ?_)))))
  refine thn_n ?_
  refine EC_cond_true rfl ?_
  refine EC_skip (thn_n (EC_seq (EC_block (EC_seq (EC_reg ?_)))))
  refine vM (ptr q) rfl e109 ?_
  have S141 := RdQ.cls (r := r9) t116 o117 H121 hB119 rfl ha118 (rd_eq hr120 rfl) S122
  refine eR rfl F87 rfl (RNum8_c (ptr q) r9 1 16 I106 _ _ S141) ?_
  rintro _ w142 ⟨rfl, S143⟩
  have hn144 := rdNum_rng r9 1 (hi := 16) (by omega)
  refine vl (.agg ([.int .i64 (rdNum r9 1 16), .slice none 0 0]).toArray) rfl (r_buildS (l := [(0, .int .i64 (rdNum r9 1 16))]) st_91 (parts1 rfl) (Eq.trans (show Instr.fill _ _ [(0, .int .i64 (rdNum r9 1 16))] = _ from (fill_one rfl rfl rfl fill_end)) (by kernel_rfl))) ?_
  refine EL_alloc (z := .agg #[.int .i64 0, .slice none 0 0]) [.int .i64 0, .slice none 0 0] rfl (by kernel_rfl) rfl ?_
  intro b145 w146 k147 A148 B149 z150
  have S151 := S143.newB B149 A148 k147
  refine sA [.int .i64 (rdNum r9 1 16), .slice none 0 0] rfl rfl (S151.arr 0 rfl) rfl (by kernel_rfl) (by simp [Value.oneCell']) ?_
  intro w152 A153 K154 z155
  have S156 := S151.wr0 (ds := [.int .i64 (rdNum r9 1 16), .slice none 0 0]) K154 A153
  refine EL_nil (thn_n (EC_seq (EC_reg (vM (ptr q) rfl e109 ?_))))
  have S157 := S156.fr1
  refine eR rfl F54 rfl (RText8_c (ptr q) (rdNumS r9 1 16) 48 48 I106 _ _ S157) ?_
  rintro _ w158 ⟨u160, I161, le162, rfl, H163, S159⟩
  refine vl (ptr b145 1) rfl (fP 0 rfl U91 (by kernel_rfl)) ?_
  refine EL_storeA (j := 1) (u := u160) rfl rfl (S159.arr 1 rfl) (by first | decide | (simp; omega) | simp) (row_one (H163 _ S159.le)) (by kernel_rfl) ?_
  intro w164 A165 K166 z167
  have S168 := S159.wr1 (ds := [.int .i64 (rdNum r9 1 16), u160]) K166 A165
  refine EL_nil (thn_n ?_)
  refine EC_any 10 (fun w' => Gh.le I161 (gh w')) (fun w' => Arr w' b 51 [.int .i64 k, .int .i64 w9, .int .i64 q9, .slice none 0 0, .slice none 0 0, .int .i64 0, .int .i64 0, .int .i64 (rdNum r 1 16), wv] ∧ Arr w' b145 91 [.int .i64 (rdNum r9 1 16), u160]) (by kernel_rfl) ?_
  intro w169 B170
  have S171 := S168.below B170
  refine jT 0 rfl (by kernel_rfl) (ptr b) rfl (fun _ hw ht => r_move (by exact e108)) ⟨S171.le, fun h => ⟨S171.arr 2 rfl, S171.arr 1 rfl⟩⟩ ?_
  refine jT 1 rfl (by kernel_rfl) (ptr b) rfl (fun _ hw ht => r_move (by exact e108)) ⟨S171.le, fun h => ⟨S171.arr 2 rfl, S171.arr 1 rfl⟩⟩ ?_
  refine jT 2 rfl (by kernel_rfl) (ptr b) rfl (fun _ hw ht => r_nil rfl) ⟨S171.le, fun h => ⟨S171.arr 2 rfl, S171.arr 1 rfl⟩⟩ ?_
  refine jT 3 rfl (by kernel_rfl) (ptr b 8) rfl (fun _ hw ht => fP 0 rfl U51 (by kernel_rfl)) ⟨S171.le, fun h => ⟨S171.arr 2 rfl, S171.arr 1 rfl⟩⟩ ?_
  refine jT 4 rfl (by kernel_rfl) wv rfl (fun _ hw ht => r_loadA rfl ht.1 (u := wv) rfl U49 rfl) ⟨S171.le, fun h => ⟨S171.arr 2 rfl, S171.arr 1 rfl⟩⟩ ?_
  refine jT 5 rfl (by kernel_rfl) (.agg ([.int .i64 (rdNum r9 1 16), u160]).toArray) rfl (fun _ hw ht => r_loadAll rfl ht.2 U91 rfl (by kernel_rfl)) ⟨S171.le, fun h => ⟨S171.arr 2 rfl, S171.arr 1 rfl⟩⟩ ?_
  refine EJ_one 6 (by kernel_rfl) ⟨_, rfl, ?_⟩
  refine EL_litW (z := #[.int .i64 0, .slice none 0 0]) (cs := ([.int .i64 (rdNum r9 1 16), u160]).toArray) (sz := 2) (l := [(0, .agg ([.int .i64 (rdNum r9 1 16), u160]).toArray)]) rfl U49 (by kernel_rfl) (parts1 rfl) (by kernel_rfl) rfl (by decide) ?_
  intro v172 w173 O174 B175 k176
  have S177 : Sat w173 I161 (OwnX 91 wrapR v172 [(⟨rdNum r9 1 16, rdTxt (rdNumS r9 1 16) 48 48⟩ : WrapT)] :: RdQ (ptr q) (rdTxtS (rdNumS r9 1 16) 48 48) :: Blk b145 91 [.int .i64 (rdNum r9 1 16), u160] :: Blk b 51 [.int .i64 k, .int .i64 w9, .int .i64 q9, .slice none 0 0, .slice none 0 0, .int .i64 0, .int .i64 0, .int .i64 (rdNum r 1 16), wv] :: OwnX 91 wrapR wv ws :: R) := OwnX.cls (xss := [[.int .i64 (rdNum r9 1 16), u160]]) (.cons ⟨u160, rfl, (by first | assumption | (dsimp only; omega)), ⟨(row_one (H163 _ S171.le)), H163⟩⟩ .nil) (S171.newO B175 O174)
  refine EL_nil ?_
  refine ⟨rfl, ⟨S177.le, fun h => ⟨S177.arr 3 rfl, S177.arr 2 rfl⟩⟩, ?_⟩
  refine EJ_one 7 (by kernel_rfl) ⟨_, rfl, ?_⟩
  have oH184 := (OwnX.one S177 0 rfl (by decide))
  obtain ⟨I181, le182, S183, H184⟩ := S177.fx0 (by decide)
  have S185 := S183.fr3
  refine EL_appX (z := (.agg #[.int .i64 0, .slice none 0 0])) (bytes := 32) rfl U49 (by kernel_rfl) rfl (by decide) rfl rfl S185 H184 (by first | omega | (simp; done) | (simp only [List.length_cons, List.length_nil]; omega) | (rw [List.length_append]; simp only [List.length_cons, List.length_nil]; omega) | (simp; omega)) (by first | omega | (simp; done) | (simp only [List.length_cons, List.length_nil]; omega) | (rw [List.length_append]; simp only [List.length_cons, List.length_nil]; omega) | (simp; omega)) ?_
  intro v178 w179 S180
  refine EL_nil ?_
  refine ⟨rfl, ⟨(lT le182 S180.le), fun h => ⟨S180.arr 3 rfl, S180.arr 2 rfl⟩⟩, ?_⟩
  refine EJ_strong (fun w' => Gh.le I181 (gh w')) _ (fun w' hw => lT le182 hw) (fun w' _ ht => ht) ?_
  refine jT 8 rfl (by kernel_rfl) (ptr b) rfl (fun _ hw ht => r_nil rfl) ⟨S180.le, fun h => ⟨S180.arr 3 rfl, S180.arr 2 rfl⟩⟩ ?_
  refine jT 9 rfl (by kernel_rfl) (ptr b 8) rfl (fun _ hw ht => fP 0 rfl U51 (by kernel_rfl)) ⟨S180.le, fun h => ⟨S180.arr 3 rfl, S180.arr 2 rfl⟩⟩ ?_
  refine EJ_one 10 (by kernel_rfl) ⟨_, rfl, ?_⟩
  refine EL_storeA (j := 8) (u := v178) rfl rfl (S180.arr 3 rfl) (by first | decide | (simp; omega) | simp) (OwnX.one S180 0 rfl (by decide)) (by kernel_rfl) ?_
  intro w186 A187 K188 z189
  have S190 := S180.wr3 (ds := [.int .i64 k, .int .i64 w9, .int .i64 q9, .slice none 0 0, .slice none 0 0, .int .i64 0, .int .i64 0, .int .i64 (rdNum r 1 16), v178]) K188 A187
  refine EL_nil ?_
  refine ⟨rfl, ⟨S190.le, fun h => by cases h⟩, ?_⟩
  refine EJ_done (by kernel_rfl) ?_
  refine inB_n (thn_n (EC_reg (vM (.int .i64 (j : Int)) rfl e107 ?_)))
  refine EL_int ((j : Int) + 1) rfl (r_addi rfl rfl (by omega)) ?_
  intro x191 hx191
  refine vA (.int .i64 x191) rfl rfl (EL_nil (thn_n ?_))
  have S192 := S190.dr2
  have S193 := S192.fr1
  have S194 := S193.fr1
  have S195 := S194.fr2
  refine ⟨_, ?_, j + 1, rdTxtS (rdNumS r9 1 16) 48 48, v178, ws ++ [(⟨rdNum r9 1 16, rdTxt (rdNumS r9 1 16) 48 48⟩ : WrapT)], I181, rfl, (Eq.trans (show _ = Value.int .i64 x191 from rfl) (congrArg _ (by omega))), (by exact e108), (by exact e109), (by exact e110), (by rw [show (rdNum (rdNumS r 1 16) 0 16).toNat - (j + 1) = (rdNum (rdNumS r 1 16) 0 16).toNat - j - 1 by omega]; exact ((rdw_step hq.1 hq.2).symm.trans hr)), (by omega), (by simp; omega), (lT (lT le111 le162) le182), S195⟩
  first | omega | (simp; omega)
  refine EC_reg (vl (.bool false) rfl (r_dec (show (decide (k = 1)) = false from by rw [decide_eq_false_iff_not]; omega) (r_eql rfl rfl)) (vA (.bool false) rfl rfl (EL_nil (thn_n ?_))))
  refine EC_cond_false rfl ?_
  refine EC_seq (EC_reg (vl (.bool false) rfl (r_dec (show (decide (k = 2)) = false from by rw [decide_eq_false_iff_not]; omega) (r_eql rfl rfl)) (vA (.bool false) rfl rfl (EL_nil (thn_n ?_)))))
  refine EC_cond_false rfl ?_
  refine EC_seq (EC_reg (vl (.bool false) rfl (r_dec (show (decide (k = 3)) = false from by rw [decide_eq_false_iff_not]; omega) (r_eql rfl rfl)) (vA (.bool false) rfl rfl (EL_nil (thn_n ?_)))))
  refine EC_cond_false rfl ?_
  refine EC_seq (EC_reg (vl (.bool false) rfl (r_dec (show (decide (k = 4)) = false from by rw [decide_eq_false_iff_not]; omega) (r_eql rfl rfl)) (vA (.bool false) rfl rfl (EL_nil (thn_n ?_)))))
  refine EC_cond_false rfl ?_
  refine EC_seq (EC_reg (vl (.bool false) rfl (r_dec (show (decide (k = 5)) = false from by rw [decide_eq_false_iff_not]; omega) (r_eql rfl rfl)) (vA (.bool false) rfl rfl (EL_nil (thn_n ?_)))))
  refine EC_cond_false rfl ?_
  refine EC_skip (inB_n ?_)
  refine fin0n rfl ⟨_, rfl, ?_⟩
  have q197 : r = (rdBody k w9 q9 r).2 := by rw [rdBody, if_neg (by omega), if_neg (by omega), if_neg (by omega), if_neg (by omega), if_neg (by omega)]
  have S196 := Sat.ah1 (RdQ (ptr q)) S q197
  have q198 : ((rdBody k w9 q9 r).1) = (⟨k, w9, q9, [], [], 0, 0, 0, []⟩ : Entry) := by rw [rdBody, if_neg (by omega), if_neg (by omega), if_neg (by omega), if_neg (by omega), if_neg (by omega)]
  exact ⟨[.int .i64 k, .int .i64 w9, .int .i64 q9, .slice none 0 0, .slice none 0 0, .int .i64 0, .int .i64 0, .int .i64 0, .slice none 0 0], I, (Gh.le_refl _), (by rw [q198]; exact ⟨(.slice none 0 0), (.slice none 0 0), (.slice none 0 0), rfl, (by first | assumption | (dsimp only; omega)), (by first | assumption | (dsimp only; omega)), (by first | assumption | (dsimp only; omega)), ⟨rfl, Ro.nil⟩, ⟨rfl, Ro.nil⟩, (by dsimp only; omega), (by dsimp only; omega), (by dsimp only; omega), ⟨rfl, RoX.nil⟩⟩), S196⟩

set_option maxRecDepth 100000 in
set_option maxHeartbeats 4000000 in
theorem Read9_c (v0 : Value) (l : List UInt8) (I : Gh) (R : List HP) (w : World) (S : Sat w I (R)) (Q0 : RoB I v0 l) (hl : l.length ≤ 1000000000) : Ret Tryz.prog 55 [v0] w fun v w' => ∃ cr : List Value, ∃ J : Gh, Gh.le I J ∧ .tuple #[.agg cr.toArray, .bool (decOk l)] = v ∧ entR.r J cr (decV l) ∧ Sat w' J (R) := by
  have lq0 := RoB.le Q0 S.le
  refine ret_E Tryz.func55 rfl Tryz.ntmps55 (by simp) ?_
  refine EC_seq (EC_reg ?_)
  refine EL_alloc (z := .agg #[.int .i64 0, .int .i64 0, .int .i64 0, .slice none 0 0, .slice none 0 0, .int .i64 0, .int .i64 0, .int .i64 0, .slice none 0 0]) entR0 rfl (by kernel_rfl) rfl ?_
  intro b11 w12 k13 A14 B15 z16
  have S17 := S.newB B15 A14 k13
  refine vA (.bool false) rfl rfl (EL_nil (thn_n (EC_seq (EC_reg (vM v0 rfl rfl ?_)))))
  refine vl (.agg ([v0, .int .i64 0, .bool false]).toArray) rfl (r_buildS (l := [(0, v0)]) st_100 (parts1 rfl) (Eq.trans (show Instr.fill _ _ [(0, v0)] = _ from (fill_one rfl (row_cells (Q0 _ S17.le)) rfl fill_end)) (by kernel_rfl))) ?_
  refine EL_box [v0, .int .i64 0, .bool false] rfl rfl rfl ?_
  intro b18 w19 k20 A21 B22 z23
  have S24 := S17.newB B22 A21 k20
  refine vA (ptr b18) rfl rfl (EL_nil (thn_n (EC_seq ?_)))
  have S25 := RdQ.cls (r := Rd.mk l false) 0 (row_one (Q0 _ S24.le)) Q0 (by first | assumption | omega | (simp; omega)) rfl (Nat.zero_le _) (by rw [List.drop_zero]) S24
  skip
  refine EC_reg (vM (ptr b18) rfl rfl ?_)
  refine eR rfl F87 rfl (RNum8_c (ptr b18) (Rd.mk l false) 1 5 I _ _ S25) ?_
  rintro _ w26 ⟨rfl, S27⟩
  have hn28 := rdNum_rng (Rd.mk l false) 1 (hi := 5) (by omega)
  refine vl (.agg ([.int .i64 (rdNum (Rd.mk l false) 1 5), .int .i64 0, .int .i64 0, .slice none 0 0, .slice none 0 0, .int .i64 0, .int .i64 0, .int .i64 0, .slice none 0 0]).toArray) rfl (r_buildS (l := [(0, .int .i64 (rdNum (Rd.mk l false) 1 5))]) st_51 (parts1 rfl) (Eq.trans (show Instr.fill _ _ [(0, .int .i64 (rdNum (Rd.mk l false) 1 5))] = _ from (fill_one rfl rfl rfl fill_end)) (by kernel_rfl))) ?_
  refine EL_alloc (z := .agg #[.int .i64 0, .int .i64 0, .int .i64 0, .slice none 0 0, .slice none 0 0, .int .i64 0, .int .i64 0, .int .i64 0, .slice none 0 0]) entR0 rfl (by kernel_rfl) rfl ?_
  intro b29 w30 k31 A32 B33 z34
  have S35 := S27.newB B33 A32 k31
  refine sA [.int .i64 (rdNum (Rd.mk l false) 1 5), .int .i64 0, .int .i64 0, .slice none 0 0, .slice none 0 0, .int .i64 0, .int .i64 0, .int .i64 0, .slice none 0 0] rfl rfl (S35.arr 0 rfl) rfl (by kernel_rfl) (by simp [Value.oneCell']) ?_
  intro w36 A37 K38 z39
  have S40 := S35.wr0 (ds := [.int .i64 (rdNum (Rd.mk l false) 1 5), .int .i64 0, .int .i64 0, .slice none 0 0, .slice none 0 0, .int .i64 0, .int .i64 0, .int .i64 0, .slice none 0 0]) K38 A37
  refine EL_nil (thn_n (EC_seq (EC_reg (vM (ptr b18) rfl rfl ?_))))
  have S41 := S40.fr1
  refine eR rfl F87 rfl (RNum8_c (ptr b18) (rdNumS (Rd.mk l false) 1 5) 1 16 I _ _ S41) ?_
  rintro _ w42 ⟨rfl, S43⟩
  have hn44 := rdNum_rng (rdNumS (Rd.mk l false) 1 5) 1 (hi := 16) (by omega)
  refine vl (ptr b29 1) rfl (fP 0 rfl U51 (by kernel_rfl)) ?_
  refine EL_storeA (j := 1) (u := .int .i64 (rdNum (rdNumS (Rd.mk l false) 1 5) 1 16)) rfl rfl (S43.arr 1 rfl) (by first | decide | (simp; omega) | simp) rfl (by kernel_rfl) ?_
  intro w45 A46 K47 z48
  have S49 := S43.wr1 (ds := [.int .i64 (rdNum (Rd.mk l false) 1 5), .int .i64 (rdNum (rdNumS (Rd.mk l false) 1 5) 1 16), .int .i64 0, .slice none 0 0, .slice none 0 0, .int .i64 0, .int .i64 0, .int .i64 0, .slice none 0 0]) K47 A46
  refine EL_nil (thn_n (EC_seq (EC_reg (vM (ptr b18) rfl rfl ?_))))
  refine eR rfl F87 rfl (RNum8_c (ptr b18) (rdNumS (rdNumS (Rd.mk l false) 1 5) 1 16) 1 1099511627776 I _ _ S49) ?_
  rintro _ w50 ⟨rfl, S51⟩
  have hn52 := rdNum_rng (rdNumS (rdNumS (Rd.mk l false) 1 5) 1 16) 1 (hi := 1099511627776) (by omega)
  refine vl (ptr b29 2) rfl (fP 0 rfl U51 (by kernel_rfl)) ?_
  refine EL_storeA (j := 2) (u := .int .i64 (rdNum (rdNumS (rdNumS (Rd.mk l false) 1 5) 1 16) 1 1099511627776)) rfl rfl (S51.arr 1 rfl) (by first | decide | (simp; omega) | simp) rfl (by kernel_rfl) ?_
  intro w53 A54 K55 z56
  have S57 := S51.wr1 (ds := [.int .i64 (rdNum (Rd.mk l false) 1 5), .int .i64 (rdNum (rdNumS (Rd.mk l false) 1 5) 1 16), .int .i64 (rdNum (rdNumS (rdNumS (Rd.mk l false) 1 5) 1 16) 1 1099511627776), .slice none 0 0, .slice none 0 0, .int .i64 0, .int .i64 0, .int .i64 0, .slice none 0 0]) K55 A54
  refine EL_nil (thn_n (EC_seq (EC_reg (vM (ptr b18) rfl rfl ?_))))
  have S58 := S57.fr1
  refine eR rfl F88 rfl (Rest9_c b29 b18 (rdNumS (rdNumS (rdNumS (Rd.mk l false) 1 5) 1 16) 1 1099511627776) (rdNum (Rd.mk l false) 1 5) (rdNum (rdNumS (Rd.mk l false) 1 5) 1 16) (rdNum (rdNumS (rdNumS (Rd.mk l false) 1 5) 1 16) 1 1099511627776) I _ _ S58 (by first | assumption | omega | (simp; done) | (simp; omega)) (by first | assumption | omega | (simp; done) | (simp; omega)) (by first | assumption | omega | (simp; done) | (simp; omega))) ?_
  rintro v65 w59 ⟨cs61, I62, le63, h64, S60⟩
  obtain ⟨v69, v72, v78, rfl, r66, r67, r68, ⟨o70, H71⟩, ⟨o73, H74⟩, r75, r76, r77, ⟨o79, H80⟩⟩ := h64
  refine EL_nil (thn_n (EC_seq (EC_seq ?_)))
  rcases dec3 l with hok | hok | hok
  have hd0 := hok.1
  refine EC_reg (vM (ptr b18) rfl rfl ?_)
  have S81 := S60.fr1
  refine eR rfl F56 rfl (REnd8_c (ptr b18) ((rdBody (rdNum (Rd.mk l false) 1 5) (rdNum (rdNumS (Rd.mk l false) 1 5) 1 16) (rdNum (rdNumS (rdNumS (Rd.mk l false) 1 5) 1 16) 1 1099511627776) (rdNumS (rdNumS (rdNumS (Rd.mk l false) 1 5) 1 16) 1 1099511627776)).2) I62 _ _ S81) ?_
  rintro _ w82 ⟨rfl, S83⟩
  refine vl (.bool false) rfl (r_dec (show (!true) = false from rfl) (r_not (Eq.trans (show _ = Value.bool (rdEnd ((rdBody (rdNum (Rd.mk l false) 1 5) (rdNum (rdNumS (Rd.mk l false) 1 5) 1 16) (rdNum (rdNumS (rdNumS (Rd.mk l false) 1 5) 1 16) 1 1099511627776) (rdNumS (rdNumS (rdNumS (Rd.mk l false) 1 5) 1 16) 1 1099511627776)).2)) from rfl) (congrArg Value.bool (show (rdEnd ((rdBody (rdNum (Rd.mk l false) 1 5) (rdNum (rdNumS (Rd.mk l false) 1 5) 1 16) (rdNum (rdNumS (rdNumS (Rd.mk l false) 1 5) 1 16) 1 1099511627776) (rdNumS (rdNumS (rdNumS (Rd.mk l false) 1 5) 1 16) 1 1099511627776)).2)) = true from hok.2.1))))) (vM (.bool false) rfl rfl (gl  23 rfl rfl rfl rfl (.agg ((entRC ((rdBody (rdNum (Rd.mk l false) 1 5) (rdNum (rdNumS (Rd.mk l false) 1 5) 1 16) (rdNum (rdNumS (rdNumS (Rd.mk l false) 1 5) 1 16) 1 1099511627776) (rdNumS (rdNumS (rdNumS (Rd.mk l false) 1 5) 1 16) 1 1099511627776)).1) v69 v72 v78)).toArray) rfl (r_loadAll rfl (S83.arr 1 rfl) U51 rfl (by kernel_rfl)) ?_))
  refine eG 23 rfl rfl rfl rfl rfl F37 rfl (Right9_c (entRC ((rdBody (rdNum (Rd.mk l false) 1 5) (rdNum (rdNumS (Rd.mk l false) 1 5) 1 16) (rdNum (rdNumS (rdNumS (Rd.mk l false) 1 5) 1 16) 1 1099511627776) (rdNumS (rdNumS (rdNumS (Rd.mk l false) 1 5) 1 16) 1 1099511627776)).1) v69 v72 v78) ((rdBody (rdNum (Rd.mk l false) 1 5) (rdNum (rdNumS (Rd.mk l false) 1 5) 1 16) (rdNum (rdNumS (rdNumS (Rd.mk l false) 1 5) 1 16) 1 1099511627776) (rdNumS (rdNumS (rdNumS (Rd.mk l false) 1 5) 1 16) 1 1099511627776)).1) I62 _ _ S83 ⟨v69, v72, v78, rfl, (by first | assumption | (dsimp only; omega)), (by first | assumption | (dsimp only; omega)), (by first | assumption | (dsimp only; omega)), ⟨o70, H71⟩, ⟨o73, H74⟩, (by first | assumption | (dsimp only; omega)), (by first | assumption | (dsimp only; omega)), (by first | assumption | (dsimp only; omega)), ⟨o79, H80⟩⟩) ?_
  rintro _ w84 ⟨rfl, S85⟩
  refine gl  23 rfl rfl rfl rfl (.bool false) rfl (r_dec (show (!true) = false from rfl) (r_not (Eq.trans (show _ = Value.bool (((rdBody (rdNum (Rd.mk l false) 1 5) (rdNum (rdNumS (Rd.mk l false) 1 5) 1 16) (rdNum (rdNumS (rdNumS (Rd.mk l false) 1 5) 1 16) 1 1099511627776) (rdNumS (rdNumS (rdNumS (Rd.mk l false) 1 5) 1 16) 1 1099511627776)).1).right) from rfl) (congrArg Value.bool (show (((rdBody (rdNum (Rd.mk l false) 1 5) (rdNum (rdNumS (Rd.mk l false) 1 5) 1 16) (rdNum (rdNumS (rdNumS (Rd.mk l false) 1 5) 1 16) 1 1099511627776) (rdNumS (rdNumS (rdNumS (Rd.mk l false) 1 5) 1 16) 1 1099511627776)).1).right) = true from hok.2.2))))) (vF (.bool false) rfl rfl rfl (EL_nil (thn_n ?_)))
  refine EC_cond_false rfl ?_
  refine EC_skip (thn_n (EC_seq (EC_reg (vl (.agg ((entRC ((rdBody (rdNum (Rd.mk l false) 1 5) (rdNum (rdNumS (Rd.mk l false) 1 5) 1 16) (rdNum (rdNumS (rdNumS (Rd.mk l false) 1 5) 1 16) 1 1099511627776) (rdNumS (rdNumS (rdNumS (Rd.mk l false) 1 5) 1 16) 1 1099511627776)).1) v69 v72 v78)).toArray) rfl (r_loadAll rfl (S85.arr 1 rfl) U51 rfl (by kernel_rfl)) ?_))))
  refine sA (entRC ((rdBody (rdNum (Rd.mk l false) 1 5) (rdNum (rdNumS (Rd.mk l false) 1 5) 1 16) (rdNum (rdNumS (rdNumS (Rd.mk l false) 1 5) 1 16) 1 1099511627776) (rdNumS (rdNumS (rdNumS (Rd.mk l false) 1 5) 1 16) 1 1099511627776)).1) v69 v72 v78) rfl rfl (S85.arr 2 rfl) rfl (by kernel_rfl) (ones_cons rfl (ones_cons rfl (ones_cons rfl (ones_cons o70 (ones_cons o73 (ones_cons rfl (ones_cons rfl (ones_cons rfl (ones_cons o79 (fun _ h => nomatch h)))))))))) ?_
  intro w86 A87 K88 z89
  have S90 := S85.wr2 (ds := (entRC ((rdBody (rdNum (Rd.mk l false) 1 5) (rdNum (rdNumS (Rd.mk l false) 1 5) 1 16) (rdNum (rdNumS (rdNumS (Rd.mk l false) 1 5) 1 16) 1 1099511627776) (rdNumS (rdNumS (rdNumS (Rd.mk l false) 1 5) 1 16) 1 1099511627776)).1) v69 v72 v78)) K88 A87
  refine vA (.bool true) rfl rfl (EL_nil (thn_n (EC_ret ?_)))
  refine fin2c Tryz.results55 (show _ = ptr b11 from rfl) (show _ = .bool true from rfl) (S90.arr 2 rfl) U51 rfl (by kernel_rfl) ⟨_, rfl, ?_⟩
  have q91 : (decV l) = (⟨((rdBody (rdNum (Rd.mk l false) 1 5) (rdNum (rdNumS (Rd.mk l false) 1 5) 1 16) (rdNum (rdNumS (rdNumS (Rd.mk l false) 1 5) 1 16) 1 1099511627776) (rdNumS (rdNumS (rdNumS (Rd.mk l false) 1 5) 1 16) 1 1099511627776)).1).kind, ((rdBody (rdNum (Rd.mk l false) 1 5) (rdNum (rdNumS (Rd.mk l false) 1 5) 1 16) (rdNum (rdNumS (rdNumS (Rd.mk l false) 1 5) 1 16) 1 1099511627776) (rdNumS (rdNumS (rdNumS (Rd.mk l false) 1 5) 1 16) 1 1099511627776)).1).writer, ((rdBody (rdNum (Rd.mk l false) 1 5) (rdNum (rdNumS (Rd.mk l false) 1 5) 1 16) (rdNum (rdNumS (rdNumS (Rd.mk l false) 1 5) 1 16) 1 1099511627776) (rdNumS (rdNumS (rdNumS (Rd.mk l false) 1 5) 1 16) 1 1099511627776)).1).seq, ((rdBody (rdNum (Rd.mk l false) 1 5) (rdNum (rdNumS (Rd.mk l false) 1 5) 1 16) (rdNum (rdNumS (rdNumS (Rd.mk l false) 1 5) 1 16) 1 1099511627776) (rdNumS (rdNumS (rdNumS (Rd.mk l false) 1 5) 1 16) 1 1099511627776)).1).name, ((rdBody (rdNum (Rd.mk l false) 1 5) (rdNum (rdNumS (Rd.mk l false) 1 5) 1 16) (rdNum (rdNumS (rdNumS (Rd.mk l false) 1 5) 1 16) 1 1099511627776) (rdNumS (rdNumS (rdNumS (Rd.mk l false) 1 5) 1 16) 1 1099511627776)).1).value, ((rdBody (rdNum (Rd.mk l false) 1 5) (rdNum (rdNumS (Rd.mk l false) 1 5) 1 16) (rdNum (rdNumS (rdNumS (Rd.mk l false) 1 5) 1 16) 1 1099511627776) (rdNumS (rdNumS (rdNumS (Rd.mk l false) 1 5) 1 16) 1 1099511627776)).1).who, ((rdBody (rdNum (Rd.mk l false) 1 5) (rdNum (rdNumS (Rd.mk l false) 1 5) 1 16) (rdNum (rdNumS (rdNumS (Rd.mk l false) 1 5) 1 16) 1 1099511627776) (rdNumS (rdNumS (rdNumS (Rd.mk l false) 1 5) 1 16) 1 1099511627776)).1).rights, ((rdBody (rdNum (Rd.mk l false) 1 5) (rdNum (rdNumS (Rd.mk l false) 1 5) 1 16) (rdNum (rdNumS (rdNumS (Rd.mk l false) 1 5) 1 16) 1 1099511627776) (rdNumS (rdNumS (rdNumS (Rd.mk l false) 1 5) 1 16) 1 1099511627776)).1).epoch, ((rdBody (rdNum (Rd.mk l false) 1 5) (rdNum (rdNumS (Rd.mk l false) 1 5) 1 16) (rdNum (rdNumS (rdNumS (Rd.mk l false) 1 5) 1 16) 1 1099511627776) (rdNumS (rdNumS (rdNumS (Rd.mk l false) 1 5) 1 16) 1 1099511627776)).1).wraps⟩ : Entry) := by rw [decV, if_pos hd0]; rfl
  have S92 := S90.dr0
  have S93 := S92.dr0
  have S94 := S93.dr0
  exact ⟨(entRC ((rdBody (rdNum (Rd.mk l false) 1 5) (rdNum (rdNumS (Rd.mk l false) 1 5) 1 16) (rdNum (rdNumS (rdNumS (Rd.mk l false) 1 5) 1 16) 1 1099511627776) (rdNumS (rdNumS (rdNumS (Rd.mk l false) 1 5) 1 16) 1 1099511627776)).1) v69 v72 v78), I62, le63, (by rw [hd0]), (by rw [q91]; exact ⟨v69, v72, v78, rfl, (by first | assumption | (dsimp only; omega)), (by first | assumption | (dsimp only; omega)), (by first | assumption | (dsimp only; omega)), ⟨o70, H71⟩, ⟨o73, H74⟩, (by first | assumption | (dsimp only; omega)), (by first | assumption | (dsimp only; omega)), (by first | assumption | (dsimp only; omega)), ⟨o79, H80⟩⟩), S94⟩
  have hd0 := hok.1
  refine EC_reg (vM (ptr b18) rfl rfl ?_)
  have S95 := S60.fr1
  refine eR rfl F56 rfl (REnd8_c (ptr b18) ((rdBody (rdNum (Rd.mk l false) 1 5) (rdNum (rdNumS (Rd.mk l false) 1 5) 1 16) (rdNum (rdNumS (rdNumS (Rd.mk l false) 1 5) 1 16) 1 1099511627776) (rdNumS (rdNumS (rdNumS (Rd.mk l false) 1 5) 1 16) 1 1099511627776)).2) I62 _ _ S95) ?_
  rintro _ w96 ⟨rfl, S97⟩
  refine vl (.bool true) rfl (r_dec (show (!false) = true from rfl) (r_not (Eq.trans (show _ = Value.bool (rdEnd ((rdBody (rdNum (Rd.mk l false) 1 5) (rdNum (rdNumS (Rd.mk l false) 1 5) 1 16) (rdNum (rdNumS (rdNumS (Rd.mk l false) 1 5) 1 16) 1 1099511627776) (rdNumS (rdNumS (rdNumS (Rd.mk l false) 1 5) 1 16) 1 1099511627776)).2)) from rfl) (congrArg Value.bool (show (rdEnd ((rdBody (rdNum (Rd.mk l false) 1 5) (rdNum (rdNumS (Rd.mk l false) 1 5) 1 16) (rdNum (rdNumS (rdNumS (Rd.mk l false) 1 5) 1 16) 1 1099511627776) (rdNumS (rdNumS (rdNumS (Rd.mk l false) 1 5) 1 16) 1 1099511627776)).2)) = false from hok.2))))) (vM (.bool true) rfl rfl (EL_pass 23 rfl rfl rfl rfl rfl (EL_pass 23 rfl rfl rfl rfl rfl (EL_pass 23 rfl rfl rfl rfl rfl (vT (.bool true) rfl rfl rfl ?_)))))
  refine EL_nil (thn_n ?_)
  refine EC_cond_true rfl ?_
  refine EC_seq (EC_reg (vl (.agg (entR0).toArray) rfl (r_buildS (l := []) st_51 rfl (Eq.trans (show Instr.fill _ _ [] = _ from fill_end) (by kernel_rfl))) ?_))
  refine sA entR0 rfl rfl (S97.arr 2 rfl) rfl (by kernel_rfl) (by simp [Value.oneCell']) ?_
  intro w98 A99 K100 z101
  have S102 := S97.wr2 (ds := entR0) K100 A99
  refine vA (.bool false) rfl rfl (EL_nil (thn_n (EC_ret (thn_r ?_))))
  refine fin2c Tryz.results55 (show _ = ptr b11 from rfl) (show _ = .bool false from rfl) (S102.arr 2 rfl) U51 rfl (by kernel_rfl) ⟨_, rfl, ?_⟩
  have q103 : (decV l) = (⟨0, 0, 0, [], [], 0, 0, 0, []⟩ : Entry) := by rw [decV, hd0]; rfl
  have S104 := S102.dr0
  have S105 := S104.dr0
  have S106 := S105.dr0
  exact ⟨entR0, I62, le63, (by rw [hd0]), (by rw [q103]; exact (entRz _)), S106⟩
  have hd0 := hok.1
  refine EC_reg (vM (ptr b18) rfl rfl ?_)
  have S107 := S60.fr1
  refine eR rfl F56 rfl (REnd8_c (ptr b18) ((rdBody (rdNum (Rd.mk l false) 1 5) (rdNum (rdNumS (Rd.mk l false) 1 5) 1 16) (rdNum (rdNumS (rdNumS (Rd.mk l false) 1 5) 1 16) 1 1099511627776) (rdNumS (rdNumS (rdNumS (Rd.mk l false) 1 5) 1 16) 1 1099511627776)).2) I62 _ _ S107) ?_
  rintro _ w108 ⟨rfl, S109⟩
  refine vl (.bool false) rfl (r_dec (show (!true) = false from rfl) (r_not (Eq.trans (show _ = Value.bool (rdEnd ((rdBody (rdNum (Rd.mk l false) 1 5) (rdNum (rdNumS (Rd.mk l false) 1 5) 1 16) (rdNum (rdNumS (rdNumS (Rd.mk l false) 1 5) 1 16) 1 1099511627776) (rdNumS (rdNumS (rdNumS (Rd.mk l false) 1 5) 1 16) 1 1099511627776)).2)) from rfl) (congrArg Value.bool (show (rdEnd ((rdBody (rdNum (Rd.mk l false) 1 5) (rdNum (rdNumS (Rd.mk l false) 1 5) 1 16) (rdNum (rdNumS (rdNumS (Rd.mk l false) 1 5) 1 16) 1 1099511627776) (rdNumS (rdNumS (rdNumS (Rd.mk l false) 1 5) 1 16) 1 1099511627776)).2)) = true from hok.2.1))))) (vM (.bool false) rfl rfl (gl  23 rfl rfl rfl rfl (.agg ((entRC ((rdBody (rdNum (Rd.mk l false) 1 5) (rdNum (rdNumS (Rd.mk l false) 1 5) 1 16) (rdNum (rdNumS (rdNumS (Rd.mk l false) 1 5) 1 16) 1 1099511627776) (rdNumS (rdNumS (rdNumS (Rd.mk l false) 1 5) 1 16) 1 1099511627776)).1) v69 v72 v78)).toArray) rfl (r_loadAll rfl (S109.arr 1 rfl) U51 rfl (by kernel_rfl)) ?_))
  refine eG 23 rfl rfl rfl rfl rfl F37 rfl (Right9_c (entRC ((rdBody (rdNum (Rd.mk l false) 1 5) (rdNum (rdNumS (Rd.mk l false) 1 5) 1 16) (rdNum (rdNumS (rdNumS (Rd.mk l false) 1 5) 1 16) 1 1099511627776) (rdNumS (rdNumS (rdNumS (Rd.mk l false) 1 5) 1 16) 1 1099511627776)).1) v69 v72 v78) ((rdBody (rdNum (Rd.mk l false) 1 5) (rdNum (rdNumS (Rd.mk l false) 1 5) 1 16) (rdNum (rdNumS (rdNumS (Rd.mk l false) 1 5) 1 16) 1 1099511627776) (rdNumS (rdNumS (rdNumS (Rd.mk l false) 1 5) 1 16) 1 1099511627776)).1) I62 _ _ S109 ⟨v69, v72, v78, rfl, (by first | assumption | (dsimp only; omega)), (by first | assumption | (dsimp only; omega)), (by first | assumption | (dsimp only; omega)), ⟨o70, H71⟩, ⟨o73, H74⟩, (by first | assumption | (dsimp only; omega)), (by first | assumption | (dsimp only; omega)), (by first | assumption | (dsimp only; omega)), ⟨o79, H80⟩⟩) ?_
  rintro _ w110 ⟨rfl, S111⟩
  refine gl  23 rfl rfl rfl rfl (.bool true) rfl (r_dec (show (!false) = true from rfl) (r_not (Eq.trans (show _ = Value.bool (((rdBody (rdNum (Rd.mk l false) 1 5) (rdNum (rdNumS (Rd.mk l false) 1 5) 1 16) (rdNum (rdNumS (rdNumS (Rd.mk l false) 1 5) 1 16) 1 1099511627776) (rdNumS (rdNumS (rdNumS (Rd.mk l false) 1 5) 1 16) 1 1099511627776)).1).right) from rfl) (congrArg Value.bool (show (((rdBody (rdNum (Rd.mk l false) 1 5) (rdNum (rdNumS (Rd.mk l false) 1 5) 1 16) (rdNum (rdNumS (rdNumS (Rd.mk l false) 1 5) 1 16) 1 1099511627776) (rdNumS (rdNumS (rdNumS (Rd.mk l false) 1 5) 1 16) 1 1099511627776)).1).right) = false from hok.2.2))))) (vF (.bool true) rfl rfl rfl (EL_nil (thn_n ?_)))
  refine EC_cond_true rfl ?_
  refine EC_seq (EC_reg (vl (.agg (entR0).toArray) rfl (r_buildS (l := []) st_51 rfl (Eq.trans (show Instr.fill _ _ [] = _ from fill_end) (by kernel_rfl))) ?_))
  refine sA entR0 rfl rfl (S111.arr 2 rfl) rfl (by kernel_rfl) (by simp [Value.oneCell']) ?_
  intro w112 A113 K114 z115
  have S116 := S111.wr2 (ds := entR0) K114 A113
  refine vA (.bool false) rfl rfl (EL_nil (thn_n (EC_ret (thn_r ?_))))
  refine fin2c Tryz.results55 (show _ = ptr b11 from rfl) (show _ = .bool false from rfl) (S116.arr 2 rfl) U51 rfl (by kernel_rfl) ⟨_, rfl, ?_⟩
  have q117 : (decV l) = (⟨0, 0, 0, [], [], 0, 0, 0, []⟩ : Entry) := by rw [decV, hd0]; rfl
  have S118 := S116.dr0
  have S119 := S118.dr0
  have S120 := S119.dr0
  exact ⟨entR0, I62, le63, (by rw [hd0]), (by rw [q117]; exact (entRz _)), S120⟩

end Go.Proofs.YtoajodjcmeijgaaGreat
