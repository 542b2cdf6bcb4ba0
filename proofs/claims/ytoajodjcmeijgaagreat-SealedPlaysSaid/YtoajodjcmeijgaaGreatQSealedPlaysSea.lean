import Derived.Test.YtoajodjcmeijgaaGreatQSealedPlaysSealed
import Derived.Test.YtoajodjcmeijgaaGreatQSealedPlaysEntG
import Derived.Test.YtoajodjcmeijgaaGreatQSealedPlaysBuc
import Derived.Test.YtoajodjcmeijgaaGreatQSealedPlaysRngA
set_option linter.unusedVariables false
set_option linter.unusedSimpArgs false
namespace Go.Proofs.YtoajodjcmeijgaaGreat
open Go.RowKit Go.Ecal
def recR : Rep Record := ⟨5, fun I cs a => ∃ v4, cs = [.int .i64 a.coll, .int .i64 a.epoch, .int .i64 a.writer, .int .i64 a.count, v4] ∧ (-9223372036854775808 ≤ a.coll ∧ a.coll ≤ 9223372036854775807) ∧ (-9223372036854775808 ≤ a.epoch ∧ a.epoch ≤ 9223372036854775807) ∧ (-9223372036854775808 ≤ a.writer ∧ a.writer ≤ 9223372036854775807) ∧ (-9223372036854775808 ≤ a.count ∧ a.count ≤ 9223372036854775807) ∧ (v4.oneCell' = true ∧ RoB I v4 a.box), fun k h => by obtain ⟨v4, rfl, h0, h1, h2, h3, ⟨o4, h4⟩⟩ := h; exact ⟨v4, rfl, h0, h1, h2, h3, ⟨o4, h4.up k⟩⟩,
  fun h => by obtain ⟨v4, rfl, h0, h1, h2, h3, ⟨o4, h4⟩⟩ := h; rfl, fun h u hu => by
    obtain ⟨v4, rfl, h0, h1, h2, h3, ⟨o4, h4⟩⟩ := h
    simp only [List.mem_cons, List.not_mem_nil, or_false] at hu
    rcases hu with rfl | rfl | rfl | rfl | rfl <;> first | rfl | assumption⟩
abbrev recRC (a : Record) (v4 : Value) : List Value := [.int .i64 a.coll, .int .i64 a.epoch, .int .i64 a.writer, .int .i64 a.count, v4]
abbrev recR0 : List Value := [.int .i64 0, .int .i64 0, .int .i64 0, .int .i64 0, .slice none 0 0]
theorem recRz (I : Gh) : recR.r I recR0 (⟨0, 0, 0, 0, []⟩ : Record) := ⟨_, rfl, (by dsimp only; omega), (by dsimp only; omega), (by dsimp only; omega), (by dsimp only; omega), ⟨rfl, Ro.nil⟩⟩
set_option maxRecDepth 100000 in
set_option maxHeartbeats 4000000 in
theorem nums_c (cr : List Value) (r : Record) (I : Gh) (R : List HP) (w : World) (S : Sat w I (R)) (hr : recR.r I cr r) : Ret Tryz.prog 30 [.agg cr.toArray] w fun v w' => .bool r.nums = v ∧ Sat w' I (R) := by
  obtain ⟨v15, rfl, r11, r12, r13, r14, ⟨o16, H17⟩⟩ := hr
  refine ret_E Tryz.func30 rfl Tryz.ntmps30 (by simp) ?_
  refine EC_seq (EC_reg ?_)
  refine EL_box [.int .i64 r.coll, .int .i64 r.epoch, .int .i64 r.writer, .int .i64 r.count, v15] rfl rfl rfl ?_
  intro b18 w19 k20 A21 B22 z23
  have S24 := S.newB B22 A21 k20
  refine vA (.bool false) rfl rfl (EL_nil (thn_n (EC_seq (EC_reg (vl (ptr b18 0) rfl (fP 0 rfl U35 (by kernel_rfl)) ?_)))))
  refine vL (.int .i64 r.coll) rfl rfl (S24.arr 0 rfl) rfl U3 rfl (vl (.bool (decide (1 ≤ r.coll))) rfl (r_geq rfl rfl) (vM (.bool (decide (1 ≤ r.coll))) rfl rfl (EL_gite 6 rfl rfl rfl (ptr b18 0) rfl (fun g25 => fP 0 rfl U35 (by kernel_rfl)) (EL_gite 6 rfl rfl rfl (.int .i64 r.coll) rfl (fun g26 => r_loadA (cond_of g26 rfl) (S24.arr 0 rfl) (u := (.int .i64 r.coll)) rfl U3 rfl) (EL_gite 6 rfl rfl rfl (.bool (decide (r.coll ≤ 1099511627776))) rfl (fun g27 => r_leq (cond_of g27 rfl) rfl) ?_)))))
  refine vl (.bool ((decide (1 ≤ r.coll)) && (decide (r.coll ≤ 1099511627776)))) rfl (r_and rfl rfl rfl) (vM (.bool ((decide (1 ≤ r.coll)) && (decide (r.coll ≤ 1099511627776)))) rfl rfl (EL_gite 11 rfl rfl rfl (ptr b18 1) rfl (fun g28 => fP 0 rfl U35 (by kernel_rfl)) (EL_gite 11 rfl rfl rfl (.int .i64 r.epoch) rfl (fun g29 => r_loadA (cond_of g29 rfl) (S24.arr 0 rfl) (u := (.int .i64 r.epoch)) rfl U3 rfl) (EL_gite 11 rfl rfl rfl (.bool (decide (0 ≤ r.epoch))) rfl (fun g30 => r_geq (cond_of g30 rfl) rfl) (vl (.bool (((decide (1 ≤ r.coll)) && (decide (r.coll ≤ 1099511627776))) && (decide (0 ≤ r.epoch)))) rfl (r_and rfl rfl rfl) ?_)))))
  refine vM (.bool (((decide (1 ≤ r.coll)) && (decide (r.coll ≤ 1099511627776))) && (decide (0 ≤ r.epoch)))) rfl rfl (EL_gite 16 rfl rfl rfl (ptr b18 1) rfl (fun g31 => fP 0 rfl U35 (by kernel_rfl)) (EL_gite 16 rfl rfl rfl (.int .i64 r.epoch) rfl (fun g32 => r_loadA (cond_of g32 rfl) (S24.arr 0 rfl) (u := (.int .i64 r.epoch)) rfl U3 rfl) (EL_gite 16 rfl rfl rfl (.bool (decide (r.epoch ≤ 16))) rfl (fun g33 => r_leq (cond_of g33 rfl) rfl) (vl (.bool ((((decide (1 ≤ r.coll)) && (decide (r.coll ≤ 1099511627776))) && (decide (0 ≤ r.epoch))) && (decide (r.epoch ≤ 16)))) rfl (r_and rfl rfl rfl) (vM (.bool ((((decide (1 ≤ r.coll)) && (decide (r.coll ≤ 1099511627776))) && (decide (0 ≤ r.epoch))) && (decide (r.epoch ≤ 16)))) rfl rfl ?_)))))
  refine EL_gite 21 rfl rfl rfl (ptr b18 2) rfl (fun g34 => fP 0 rfl U35 (by kernel_rfl)) (EL_gite 21 rfl rfl rfl (.int .i64 r.writer) rfl (fun g35 => r_loadA (cond_of g35 rfl) (S24.arr 0 rfl) (u := (.int .i64 r.writer)) rfl U3 rfl) (EL_gite 21 rfl rfl rfl (.bool (decide (1 ≤ r.writer))) rfl (fun g36 => r_geq (cond_of g36 rfl) rfl) (vl (.bool (((((decide (1 ≤ r.coll)) && (decide (r.coll ≤ 1099511627776))) && (decide (0 ≤ r.epoch))) && (decide (r.epoch ≤ 16))) && (decide (1 ≤ r.writer)))) rfl (r_and rfl rfl rfl) (vM (.bool (((((decide (1 ≤ r.coll)) && (decide (r.coll ≤ 1099511627776))) && (decide (0 ≤ r.epoch))) && (decide (r.epoch ≤ 16))) && (decide (1 ≤ r.writer)))) rfl rfl (EL_gite 26 rfl rfl rfl (ptr b18 2) rfl (fun g37 => fP 0 rfl U35 (by kernel_rfl)) ?_)))))
  refine EL_gite 26 rfl rfl rfl (.int .i64 r.writer) rfl (fun g38 => r_loadA (cond_of g38 rfl) (S24.arr 0 rfl) (u := (.int .i64 r.writer)) rfl U3 rfl) (EL_gite 26 rfl rfl rfl (.bool (decide (r.writer ≤ 16))) rfl (fun g39 => r_leq (cond_of g39 rfl) rfl) (vl (.bool ((((((decide (1 ≤ r.coll)) && (decide (r.coll ≤ 1099511627776))) && (decide (0 ≤ r.epoch))) && (decide (r.epoch ≤ 16))) && (decide (1 ≤ r.writer))) && (decide (r.writer ≤ 16)))) rfl (r_and rfl rfl rfl) (vM (.bool ((((((decide (1 ≤ r.coll)) && (decide (r.coll ≤ 1099511627776))) && (decide (0 ≤ r.epoch))) && (decide (r.epoch ≤ 16))) && (decide (1 ≤ r.writer))) && (decide (r.writer ≤ 16)))) rfl rfl (EL_gite 31 rfl rfl rfl (ptr b18 3) rfl (fun g40 => fP 0 rfl U35 (by kernel_rfl)) (EL_gite 31 rfl rfl rfl (.int .i64 r.count) rfl (fun g41 => r_loadA (cond_of g41 rfl) (S24.arr 0 rfl) (u := (.int .i64 r.count)) rfl U3 rfl) ?_)))))
  refine EL_gite 31 rfl rfl rfl (.bool (decide (1 ≤ r.count))) rfl (fun g42 => r_geq (cond_of g42 rfl) rfl) (vl (.bool (((((((decide (1 ≤ r.coll)) && (decide (r.coll ≤ 1099511627776))) && (decide (0 ≤ r.epoch))) && (decide (r.epoch ≤ 16))) && (decide (1 ≤ r.writer))) && (decide (r.writer ≤ 16))) && (decide (1 ≤ r.count)))) rfl (r_and rfl rfl rfl) (vM (.bool (((((((decide (1 ≤ r.coll)) && (decide (r.coll ≤ 1099511627776))) && (decide (0 ≤ r.epoch))) && (decide (r.epoch ≤ 16))) && (decide (1 ≤ r.writer))) && (decide (r.writer ≤ 16))) && (decide (1 ≤ r.count)))) rfl rfl (EL_gite 36 rfl rfl rfl (ptr b18 3) rfl (fun g43 => fP 0 rfl U35 (by kernel_rfl)) (EL_gite 36 rfl rfl rfl (.int .i64 r.count) rfl (fun g44 => r_loadA (cond_of g44 rfl) (S24.arr 0 rfl) (u := (.int .i64 r.count)) rfl U3 rfl) (EL_gite 36 rfl rfl rfl (.bool (decide (r.count ≤ 1099511627776))) rfl (fun g45 => r_leq (cond_of g45 rfl) rfl) ?_)))))
  refine vl (.bool ((((((((decide (1 ≤ r.coll)) && (decide (r.coll ≤ 1099511627776))) && (decide (0 ≤ r.epoch))) && (decide (r.epoch ≤ 16))) && (decide (1 ≤ r.writer))) && (decide (r.writer ≤ 16))) && (decide (1 ≤ r.count))) && (decide (r.count ≤ 1099511627776)))) rfl (r_and rfl rfl rfl) (vA (.bool ((((((((decide (1 ≤ r.coll)) && (decide (r.coll ≤ 1099511627776))) && (decide (0 ≤ r.epoch))) && (decide (r.epoch ≤ 16))) && (decide (1 ≤ r.writer))) && (decide (r.writer ≤ 16))) && (decide (1 ≤ r.count))) && (decide (r.count ≤ 1099511627776)))) rfl rfl (EL_nil (thn_n (EC_ret ?_))))
  refine fin1 Tryz.results30 (show _ = .bool ((((((((decide (1 ≤ r.coll)) && (decide (r.coll ≤ 1099511627776))) && (decide (0 ≤ r.epoch))) && (decide (r.epoch ≤ 16))) && (decide (1 ≤ r.writer))) && (decide (r.writer ≤ 16))) && (decide (1 ≤ r.count))) && (decide (r.count ≤ 1099511627776))) from rfl) ⟨_, rfl, ?_⟩
  have S46 := S24.dr0
  exact ⟨rfl, S46⟩

set_option maxRecDepth 100000 in
set_option maxHeartbeats 4000000 in
theorem RRight_c (cr : List Value) (r : Record) (I : Gh) (R : List HP) (w : World) (S : Sat w I (R)) (hr : recR.r I cr r) : Ret Tryz.prog 43 [.agg cr.toArray] w fun v w' => .bool r.right = v ∧ Sat w' I (R) := by
  obtain ⟨v15, rfl, r11, r12, r13, r14, ⟨o16, H17⟩⟩ := hr
  refine ret_E Tryz.func43 rfl Tryz.ntmps43 (by simp) ?_
  refine EC_seq (EC_reg ?_)
  refine EL_box [.int .i64 r.coll, .int .i64 r.epoch, .int .i64 r.writer, .int .i64 r.count, v15] rfl rfl rfl ?_
  intro b18 w19 k20 A21 B22 z23
  have S24 := S.newB B22 A21 k20
  refine vA (.bool false) rfl rfl (EL_nil (thn_n (EC_seq ?_)))
  rcases (by cases r.nums <;> simp : r.nums = true ∨ r.nums = false) with hnu | hnu
  refine EC_reg (vl (.agg ([.int .i64 r.coll, .int .i64 r.epoch, .int .i64 r.writer, .int .i64 r.count, v15]).toArray) rfl (r_loadAll rfl (S24.arr 0 rfl) U35 rfl (by kernel_rfl)) ?_)
  refine eR rfl F30 rfl (nums_c [.int .i64 r.coll, .int .i64 r.epoch, .int .i64 r.writer, .int .i64 r.count, v15] r I _ _ S24 ⟨v15, rfl, (by first | assumption | (dsimp only; omega)), (by first | assumption | (dsimp only; omega)), (by first | assumption | (dsimp only; omega)), (by first | assumption | (dsimp only; omega)), ⟨o16, H17⟩⟩) ?_
  rintro _ w25 ⟨rfl, S26⟩
  refine vl (.bool true) rfl (r_move (Eq.trans (show _ = Value.bool (r.nums) from rfl) (congrArg Value.bool (show (r.nums) = true from hnu)))) (gl  5 rfl rfl rfl rfl (ptr b18 4) rfl (fP 0 rfl U35 (by kernel_rfl)) ?_)
  refine gL  5 rfl rfl rfl rfl v15 rfl rfl (S26.arr 0 rfl) rfl U22 rfl ?_
  refine gl  5 rfl rfl rfl rfl (.int .i64 (r.box.length : Int)) rfl (lenB (r_len rfl (H17 _ S26.le) U22)) (gl  5 rfl rfl rfl rfl (.bool (decide (80 ≤ (r.box.length : Int)))) rfl (r_geq rfl rfl) (vT (.bool (decide (80 ≤ (r.box.length : Int)))) rfl rfl rfl (vM (.bool (decide (80 ≤ (r.box.length : Int)))) rfl rfl (EL_gite 11 rfl rfl rfl (ptr b18 4) rfl (fun g27 => fP 0 rfl U35 (by kernel_rfl)) (EL_gite 11 rfl rfl rfl v15 rfl (fun g28 => r_loadA (cond_of g28 rfl) (S26.arr 0 rfl) (u := v15) rfl U22 rfl) ?_)))))
  refine EL_gite 11 rfl rfl rfl (.int .i64 (r.box.length : Int)) rfl (fun g29 => lenB (r_len (cond_of g29 rfl) (H17 _ S26.le) U22)) (EL_gite 11 rfl rfl rfl (.bool (decide ((r.box.length : Int) ≤ 2064))) rfl (fun g30 => r_leq (cond_of g30 rfl) rfl) (vl (.bool ((decide (80 ≤ (r.box.length : Int))) && (decide ((r.box.length : Int) ≤ 2064)))) rfl (r_and rfl rfl rfl) (vA (.bool ((decide (80 ≤ (r.box.length : Int))) && (decide ((r.box.length : Int) ≤ 2064)))) rfl rfl (EL_nil (thn_n ?_)))))
  refine EC_ret ?_
  refine fin1 Tryz.results43 (show _ = .bool ((decide (80 ≤ (r.box.length : Int))) && (decide ((r.box.length : Int) ≤ 2064))) from rfl) ⟨_, rfl, ?_⟩
  have S31 := S26.dr0
  exact ⟨(congrArg Value.bool (by rw [Record.right, hnu] <;> simp)), S31⟩
  refine EC_reg (vl (.agg ([.int .i64 r.coll, .int .i64 r.epoch, .int .i64 r.writer, .int .i64 r.count, v15]).toArray) rfl (r_loadAll rfl (S24.arr 0 rfl) U35 rfl (by kernel_rfl)) ?_)
  refine eR rfl F30 rfl (nums_c [.int .i64 r.coll, .int .i64 r.epoch, .int .i64 r.writer, .int .i64 r.count, v15] r I _ _ S24 ⟨v15, rfl, (by first | assumption | (dsimp only; omega)), (by first | assumption | (dsimp only; omega)), (by first | assumption | (dsimp only; omega)), (by first | assumption | (dsimp only; omega)), ⟨o16, H17⟩⟩) ?_
  rintro _ w32 ⟨rfl, S33⟩
  refine vl (.bool false) rfl (r_move (Eq.trans (show _ = Value.bool (r.nums) from rfl) (congrArg Value.bool (show (r.nums) = false from hnu)))) (EL_pass 5 rfl rfl rfl rfl rfl (EL_pass 5 rfl rfl rfl rfl rfl (EL_pass 5 rfl rfl rfl rfl rfl (EL_pass 5 rfl rfl rfl rfl rfl (vF (.bool false) rfl rfl rfl ?_)))))
  refine vM (.bool false) rfl rfl (EL_pass 11 rfl rfl rfl rfl rfl (EL_pass 11 rfl rfl rfl rfl rfl (EL_pass 11 rfl rfl rfl rfl rfl (EL_pass 11 rfl rfl rfl rfl rfl (vF (.bool false) rfl rfl rfl ?_)))))
  refine vA (.bool false) rfl rfl (EL_nil (thn_n (EC_ret ?_)))
  refine fin1 Tryz.results43 (show _ = .bool false from rfl) ⟨_, rfl, ?_⟩
  have S34 := S33.dr0
  exact ⟨(congrArg Value.bool (by rw [Record.right, hnu] <;> simp)), S34⟩

set_option maxRecDepth 100000 in
set_option maxHeartbeats 4000000 in
theorem front_c (cr : List Value) (r : Record) (I : Gh) (R : List HP) (w : World) (S : Sat w I (R)) (hr : recR.r I cr r) : Ret Tryz.prog 36 [.agg cr.toArray] w fun v w' => ∃ v1 : Value, ∃ J : Gh, Gh.le I J ∧ v1 = v ∧ Sat w' J (OwnB v1 r.front :: R) := by
  obtain ⟨v15, rfl, r11, r12, r13, r14, ⟨o16, H17⟩⟩ := hr
  refine ret_E Tryz.func36 rfl Tryz.ntmps36 (by simp) ?_
  refine EC_seq (EC_reg ?_)
  refine EL_box [.int .i64 r.coll, .int .i64 r.epoch, .int .i64 r.writer, .int .i64 r.count, v15] rfl rfl rfl ?_
  intro b18 w19 k20 A21 B22 z23
  have S24 := S.newB B22 A21 k20
  refine vA (.slice none 0 0) rfl rfl (EL_nil (thn_n (EC_seq (EC_reg (vl (ptr b18 0) rfl (fP 0 rfl U35 (by kernel_rfl)) ?_)))))
  refine vL (.int .i64 r.coll) rfl rfl (S24.arr 0 rfl) rfl U3 rfl (vl (.iface 3 (.int .i64 r.coll)) rfl (r_iface rfl U3 rfl) (vl (ptr b18 1) rfl (fP 0 rfl U35 (by kernel_rfl)) (vL (.int .i64 r.epoch) rfl rfl (S24.arr 0 rfl) rfl U3 rfl (vl (.iface 3 (.int .i64 r.epoch)) rfl (r_iface rfl U3 rfl) (vl (ptr b18 2) rfl (fP 0 rfl U35 (by kernel_rfl)) ?_)))))
  refine vL (.int .i64 r.writer) rfl rfl (S24.arr 0 rfl) rfl U3 rfl (vl (.iface 3 (.int .i64 r.writer)) rfl (r_iface rfl U3 rfl) (vl (ptr b18 3) rfl (fP 0 rfl U35 (by kernel_rfl)) (vL (.int .i64 r.count) rfl rfl (S24.arr 0 rfl) rfl U3 rfl (vl (.iface 3 (.int .i64 r.count)) rfl (r_iface rfl U3 rfl) ?_))))
  refine EL_lit1 (l := [(0, .iface 3 (.int .i64 r.coll)), (1, .iface 3 (.int .i64 r.epoch)), (2, .iface 3 (.int .i64 r.writer)), (3, .iface 3 (.int .i64 r.count))]) w19.heap.size [.iface 3 (.int .i64 r.coll), .iface 3 (.int .i64 r.epoch), .iface 3 (.int .i64 r.writer), .iface 3 (.int .i64 r.count)] el_112 rfl (by decide) rfl (Nat.le_refl _) (parts4 rfl rfl rfl rfl) (Eq.trans (show Instr.fill _ _ [(0, .iface 3 (.int .i64 r.coll)), (1, .iface 3 (.int .i64 r.epoch)), (2, .iface 3 (.int .i64 r.writer)), (3, .iface 3 (.int .i64 r.count))] = _ from (fill_one rfl rfl (by kernel_rfl) (fill_one rfl rfl (by kernel_rfl) (fill_one rfl rfl (by kernel_rfl) (fill_one rfl rfl (by kernel_rfl) fill_end))))) (by kernel_rfl)) ?_
  intro v25 w26 O27 B28 k29
  have S30 : Sat w26 I (OwnX 20 anyR v25 [(Any.int r.coll), (Any.int r.epoch), (Any.int r.writer), (Any.int r.count)] :: Blk b18 35 [.int .i64 r.coll, .int .i64 r.epoch, .int .i64 r.writer, .int .i64 r.count, v15] :: R) := OwnX.cls (xss := [[.iface 3 (.int .i64 r.coll)], [.iface 3 (.int .i64 r.epoch)], [.iface 3 (.int .i64 r.writer)], [.iface 3 (.int .i64 r.count)]]) (.cons ⟨rfl, (by first | assumption | omega)⟩ (.cons ⟨rfl, (by first | assumption | omega)⟩ (.cons ⟨rfl, (by first | assumption | omega)⟩ (.cons ⟨rfl, (by first | assumption | omega)⟩ .nil)))) (S24.newO B28 O27)
  have oH34 := (OwnX.one S30 0 rfl (by decide))
  obtain ⟨I31, le32, S33, H34⟩ := S30.fx0 (by decide)
  refine eR rfl F31 rfl (Put_c v25 [(Any.int r.coll), (Any.int r.epoch), (Any.int r.writer), (Any.int r.count)] I31 _ _ S33 H34 (by simp)) ?_
  rintro _ w35 ⟨v37, rfl, S36⟩
  refine vM (.tuple #[v37, .int .i64 (putE [(Any.int r.coll), (Any.int r.epoch), (Any.int r.writer), (Any.int r.count)])]) rfl rfl (vX v37 rfl rfl rfl (vX (.int .i64 (putE [(Any.int r.coll), (Any.int r.epoch), (Any.int r.writer), (Any.int r.count)])) rfl rfl rfl (vA v37 rfl rfl (vA (.int .i64 (putE [(Any.int r.coll), (Any.int r.epoch), (Any.int r.writer), (Any.int r.count)])) rfl rfl (EL_nil ?_)))))
  refine thn_n (EC_seq (EC_reg (vM v37 rfl rfl (vA v37 rfl rfl (EL_nil ?_)))))
  refine thn_n (EC_ret ?_)
  refine fin1 Tryz.results36 (show _ = v37 from rfl) ⟨_, rfl, ?_⟩
  have S38 := S36.dr1
  exact ⟨v37, I31, le32, rfl, S38⟩

set_option maxRecDepth 100000 in
set_option maxHeartbeats 4000000 in
theorem mark_c (p : Value) (L : List Thing) (v0 : Value) (s : List UInt8) (coll : Int) (who : Int) (v1 : Value) (b : List UInt8) (I : Gh) (R : List HP) (w : World) (S : Sat w I (Suite p L :: R)) (Q0 : RoB I v0 s) (Q1 : RoB I v1 b) (hl : L.length ≤ 900000) (hs : s.length ≤ 100000) (hc : -9223372036854775808 ≤ coll ∧ coll ≤ 9223372036854775807) : Ret Tryz.prog 33 [p, v0, .int .i64 coll, .int .i64 who, v1] w fun v w' => ∃ v2 : Value, ∃ J : Gh, Gh.le I J ∧ v2 = v ∧ Sat w' J (OwnB v2 (markB L s coll who b) :: Suite p (markL L s coll who b) :: R) := by
  have lq0 := RoB.le Q0 S.le
  have lq1 := RoB.le Q1 S.le
  refine ret_E Tryz.func33 rfl Tryz.ntmps33 (by simp) ?_
  refine EC_seq (EC_reg (vA (.slice none 0 0) rfl rfl (EL_nil (thn_n (EC_seq ?_)))))
  refine EC_reg (vM p rfl rfl (vM v0 rfl rfl (vM (.int .i64 who) rfl rfl ?_)))
  refine eR rfl F73 rfl (Writer_c p L v0 s who I _ _ S Q0 (by omega) (by first | assumption | omega | (simp; done) | (simp; omega))) ?_
  rintro _ w11 ⟨v13, I14, le15, rfl, S12⟩
  refine vM (.tuple #[v13, .int .i64 (rightE who)]) rfl rfl (vX v13 rfl rfl rfl (vX (.int .i64 (rightE who)) rfl rfl rfl (vA v13 rfl rfl (vA (.int .i64 (rightE who)) rfl rfl (EL_nil ?_)))))
  refine thn_n (EC_seq (EC_reg (vM (.int .i64 coll) rfl rfl (vl (.iface 3 (.int .i64 coll)) rfl (r_iface rfl U3 rfl) (vM v1 rfl rfl ?_)))))
  refine vl (.iface 22 v1) rfl (r_iface rfl U22 rfl) ?_
  refine EL_lit1 (l := [(0, .iface 3 (.int .i64 coll)), (1, .iface 22 v1)]) w11.heap.size [.iface 3 (.int .i64 coll), .iface 22 v1] el_112 rfl (by decide) rfl (Nat.le_refl _) (parts2 rfl rfl) (Eq.trans (show Instr.fill _ _ [(0, .iface 3 (.int .i64 coll)), (1, .iface 22 v1)] = _ from (fill_one rfl rfl (by kernel_rfl) (fill_one rfl rfl (by kernel_rfl) fill_end))) (by kernel_rfl)) ?_
  intro v16 w17 O18 B19 k20
  have S21 : Sat w17 I14 (OwnX 20 anyR v16 [(Any.int coll), (Any.bytes b)] :: OwnB v13 (rightB L s uWriter who) :: Suite p (rightL L s uWriter who) :: R) := OwnX.cls (xss := [[.iface 3 (.int .i64 coll)], [.iface 22 v1]]) (.cons ⟨rfl, (by first | assumption | omega)⟩ (.cons ⟨_, rfl, (row_one (Q1 _ (lT le15 S12.le))), (Q1.up le15)⟩ .nil)) (S12.newO B19 O18)
  have oH25 := (OwnX.one S21 0 rfl (by decide))
  obtain ⟨I22, le23, S24, H25⟩ := S21.fx0 (by decide)
  refine eR rfl F31 rfl (Put_c v16 [(Any.int coll), (Any.bytes b)] I22 _ _ S24 H25 (by simp)) ?_
  rintro _ w26 ⟨v28, rfl, S27⟩
  refine vM (.tuple #[v28, .int .i64 (putE [(Any.int coll), (Any.bytes b)])]) rfl rfl (vX v28 rfl rfl rfl (vX (.int .i64 (putE [(Any.int coll), (Any.bytes b)])) rfl rfl rfl (vA v28 rfl rfl (vA (.int .i64 (putE [(Any.int coll), (Any.bytes b)])) rfl rfl (EL_nil ?_)))))
  refine thn_n (EC_seq (EC_reg (vM p rfl rfl (vM v13 rfl rfl (vM v28 rfl rfl ?_)))))
  obtain ⟨I29, le30, S31, H32⟩ := S27.fb0
  refine EL_lit1 (l := [(0, v28)]) w26.heap.size [v28] el_106 rfl (by decide) rfl (Nat.le_refl _) (parts1 rfl) (Eq.trans (show Instr.fill _ _ [(0, v28)] = _ from (fill_one rfl (row_cells (H32 _ S31.le)) (by kernel_rfl) fill_end)) (by kernel_rfl)) ?_
  intro v33 w34 O35 B36 k37
  have S38 : Sat w34 I29 (OwnX 22 bytesR v33 [putB [(Any.int coll), (Any.bytes b)]] :: OwnB v13 (rightB L s uWriter who) :: Suite p (rightL L s uWriter who) :: R) := OwnX.cls (xss := [[v28]]) (.cons ⟨_, rfl, (row_one (H32 _ S31.le)), H32⟩ .nil) (S31.newO B36 O35)
  obtain ⟨I39, le40, S41, H42⟩ := S38.fb1
  have oH46 := (OwnX.one S41 0 rfl (by decide))
  obtain ⟨I43, le44, S45, H46⟩ := S41.fx0 (by decide)
  refine eR rfl F74 rfl (Code_c p (rightL L s uWriter who) v13 (rightB L s uWriter who) v33 [putB [(Any.int coll), (Any.bytes b)]] I43 _ _ S45 (H42.up le44) H46 (Nat.le_trans (rightL_len _ _ _ _) (by omega)) (Nat.le_trans (rightB_len _ _ _ _) (by decide)) (by have := putB_le [Any.int coll, Any.bytes b]; simp at this ⊢; omega)) ?_
  rintro _ w47 ⟨v49, rfl, S48⟩
  have q51 : signOf 77 (onceN (tCode (rightB L s uWriter who) [putB [(Any.int coll), (Any.bytes b)]].flatten) (rightL L s uWriter who)) = markB L s coll who b := by simp only [markB, markL, markT, List.flatten_cons, List.flatten_nil, List.append_nil]
  have S50 := S48.ab0 q51
  have q53 : onceL (tCode (rightB L s uWriter who) [putB [(Any.int coll), (Any.bytes b)]].flatten) (rightL L s uWriter who) = markL L s coll who b := by simp only [markB, markL, markT, List.flatten_cons, List.flatten_nil, List.append_nil]
  have S52 := Sat.ah1 (Suite p) S50 q53
  refine vA v49 rfl rfl (EL_nil (thn_n (EC_ret ?_)))
  refine fin1 Tryz.results33 (show _ = v49 from rfl) ⟨_, rfl, ?_⟩
  exact ⟨v49, I43, (lT (lT (lT (lT le15 le23) le30) le40) le44), rfl, S52⟩

end Go.Proofs.YtoajodjcmeijgaaGreat
