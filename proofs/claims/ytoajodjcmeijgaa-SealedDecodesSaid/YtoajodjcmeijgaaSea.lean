import Derived.Test.YtoajodjcmeijgaaSealed
import Derived.Test.YtoajodjcmeijgaaEntG
import Derived.Test.YtoajodjcmeijgaaBuc
import Derived.Test.YtoajodjcmeijgaaRngA
set_option linter.unusedVariables false
set_option linter.unusedSimpArgs false
namespace Go.Proofs.Ytoajodjcmeijgaa
open Go.RowKit Go.Ecal
def recR : Rep Record := ⟨5, fun I cs a => ∃ v4, cs = [.int .i64 a.coll, .int .i64 a.epoch, .int .i64 a.writer, .int .i64 a.count, v4] ∧ (-9223372036854775808 ≤ a.coll ∧ a.coll ≤ 9223372036854775807) ∧ (-9223372036854775808 ≤ a.epoch ∧ a.epoch ≤ 9223372036854775807) ∧ (-9223372036854775808 ≤ a.writer ∧ a.writer ≤ 9223372036854775807) ∧ (-9223372036854775808 ≤ a.count ∧ a.count ≤ 9223372036854775807) ∧ (v4.oneCell' = true ∧ RoB I v4 a.box), fun k h => by obtain ⟨v4, rfl, h0, h1, h2, h3, ⟨o4, h4⟩⟩ := h; exact ⟨v4, rfl, h0, h1, h2, h3, ⟨o4, h4.up k⟩⟩,
  fun h => by obtain ⟨v4, rfl, h0, h1, h2, h3, ⟨o4, h4⟩⟩ := h; rfl, fun h u hu => by
    obtain ⟨v4, rfl, h0, h1, h2, h3, ⟨o4, h4⟩⟩ := h
    simp only [List.mem_cons, List.not_mem_nil, or_false] at hu
    rcases hu with rfl | rfl | rfl | rfl | rfl <;> first | rfl | assumption⟩
set_option maxRecDepth 100000 in
set_option maxHeartbeats 4000000 in
theorem nums_c (cr : List Value) (r : Record) (I : Gh) (R : List HP) (w : World) (S : Sat w I (R)) (hr : recR.r I cr r) : Ret Try.prog 40 [.agg cr.toArray] w fun v w' => .bool r.nums = v ∧ Sat w' I (R) := by
  obtain ⟨v15, rfl, r11, r12, r13, r14, ⟨o16, H17⟩⟩ := hr
  refine ret_E Try.func40 rfl Try.ntmps40 (by simp) ?_
  refine EC_seq ?_
  refine EC_reg ?_
  refine EL_box [.int .i64 r.coll, .int .i64 r.epoch, .int .i64 r.writer, .int .i64 r.count, v15] rfl rfl rfl ?_
  intro b18 w19 k20 A21 B22 z23
  have S24 := S.newB B22 A21 k20
  refine EL_val (.bool false) w19 rfl (r_assign rfl) ?_
  refine EL_nil ?_
  refine thn_n ?_
  refine EC_seq ?_
  refine EC_reg ?_
  refine EL_val (ptr b18 0) w19 rfl (r_fieldP (o := 0) (s := 1) rfl Try.underlying27 rfl (by kernel_rfl) (by decide) rfl) ?_
  refine EL_val (.int .i64 r.coll) w19 rfl (r_loadA rfl (S24.arr 0 rfl) (u := (.int .i64 r.coll)) rfl Try.underlying3 rfl) ?_
  refine EL_val (.bool (decide (1 ≤ r.coll))) w19 rfl (r_geq rfl rfl) ?_
  refine EL_val (.bool (decide (1 ≤ r.coll))) w19 rfl (r_move rfl) ?_
  refine EL_gite 6 rfl rfl rfl (ptr b18 0) rfl (fun g25 => r_fieldP (o := 0) (s := 1) rfl Try.underlying27 rfl (by kernel_rfl) (by decide) rfl) ?_
  refine EL_gite 6 rfl rfl rfl (.int .i64 r.coll) rfl (fun g26 => r_loadA (cond_of g26 rfl) (S24.arr 0 rfl) (u := (.int .i64 r.coll)) rfl Try.underlying3 rfl) ?_
  refine EL_gite 6 rfl rfl rfl (.bool (decide (r.coll ≤ 1099511627776))) rfl (fun g27 => r_leq (cond_of g27 rfl) rfl) ?_
  refine EL_val (.bool ((decide (1 ≤ r.coll)) && (decide (r.coll ≤ 1099511627776)))) w19 rfl (r_and rfl rfl rfl) ?_
  refine EL_val (.bool ((decide (1 ≤ r.coll)) && (decide (r.coll ≤ 1099511627776)))) w19 rfl (r_move rfl) ?_
  refine EL_gite 11 rfl rfl rfl (ptr b18 1) rfl (fun g28 => r_fieldP (o := 0) (s := 1) rfl Try.underlying27 rfl (by kernel_rfl) (by decide) rfl) ?_
  refine EL_gite 11 rfl rfl rfl (.int .i64 r.epoch) rfl (fun g29 => r_loadA (cond_of g29 rfl) (S24.arr 0 rfl) (u := (.int .i64 r.epoch)) rfl Try.underlying3 rfl) ?_
  refine EL_gite 11 rfl rfl rfl (.bool (decide (0 ≤ r.epoch))) rfl (fun g30 => r_geq (cond_of g30 rfl) rfl) ?_
  refine EL_val (.bool (((decide (1 ≤ r.coll)) && (decide (r.coll ≤ 1099511627776))) && (decide (0 ≤ r.epoch)))) w19 rfl (r_and rfl rfl rfl) ?_
  refine EL_val (.bool (((decide (1 ≤ r.coll)) && (decide (r.coll ≤ 1099511627776))) && (decide (0 ≤ r.epoch)))) w19 rfl (r_move rfl) ?_
  refine EL_gite 16 rfl rfl rfl (ptr b18 1) rfl (fun g31 => r_fieldP (o := 0) (s := 1) rfl Try.underlying27 rfl (by kernel_rfl) (by decide) rfl) ?_
  refine EL_gite 16 rfl rfl rfl (.int .i64 r.epoch) rfl (fun g32 => r_loadA (cond_of g32 rfl) (S24.arr 0 rfl) (u := (.int .i64 r.epoch)) rfl Try.underlying3 rfl) ?_
  refine EL_gite 16 rfl rfl rfl (.bool (decide (r.epoch ≤ 16))) rfl (fun g33 => r_leq (cond_of g33 rfl) rfl) ?_
  refine EL_val (.bool ((((decide (1 ≤ r.coll)) && (decide (r.coll ≤ 1099511627776))) && (decide (0 ≤ r.epoch))) && (decide (r.epoch ≤ 16)))) w19 rfl (r_and rfl rfl rfl) ?_
  refine EL_val (.bool ((((decide (1 ≤ r.coll)) && (decide (r.coll ≤ 1099511627776))) && (decide (0 ≤ r.epoch))) && (decide (r.epoch ≤ 16)))) w19 rfl (r_move rfl) ?_
  refine EL_gite 21 rfl rfl rfl (ptr b18 2) rfl (fun g34 => r_fieldP (o := 0) (s := 1) rfl Try.underlying27 rfl (by kernel_rfl) (by decide) rfl) ?_
  refine EL_gite 21 rfl rfl rfl (.int .i64 r.writer) rfl (fun g35 => r_loadA (cond_of g35 rfl) (S24.arr 0 rfl) (u := (.int .i64 r.writer)) rfl Try.underlying3 rfl) ?_
  refine EL_gite 21 rfl rfl rfl (.bool (decide (1 ≤ r.writer))) rfl (fun g36 => r_geq (cond_of g36 rfl) rfl) ?_
  refine EL_val (.bool (((((decide (1 ≤ r.coll)) && (decide (r.coll ≤ 1099511627776))) && (decide (0 ≤ r.epoch))) && (decide (r.epoch ≤ 16))) && (decide (1 ≤ r.writer)))) w19 rfl (r_and rfl rfl rfl) ?_
  refine EL_val (.bool (((((decide (1 ≤ r.coll)) && (decide (r.coll ≤ 1099511627776))) && (decide (0 ≤ r.epoch))) && (decide (r.epoch ≤ 16))) && (decide (1 ≤ r.writer)))) w19 rfl (r_move rfl) ?_
  refine EL_gite 26 rfl rfl rfl (ptr b18 2) rfl (fun g37 => r_fieldP (o := 0) (s := 1) rfl Try.underlying27 rfl (by kernel_rfl) (by decide) rfl) ?_
  refine EL_gite 26 rfl rfl rfl (.int .i64 r.writer) rfl (fun g38 => r_loadA (cond_of g38 rfl) (S24.arr 0 rfl) (u := (.int .i64 r.writer)) rfl Try.underlying3 rfl) ?_
  refine EL_gite 26 rfl rfl rfl (.bool (decide (r.writer ≤ 16))) rfl (fun g39 => r_leq (cond_of g39 rfl) rfl) ?_
  refine EL_val (.bool ((((((decide (1 ≤ r.coll)) && (decide (r.coll ≤ 1099511627776))) && (decide (0 ≤ r.epoch))) && (decide (r.epoch ≤ 16))) && (decide (1 ≤ r.writer))) && (decide (r.writer ≤ 16)))) w19 rfl (r_and rfl rfl rfl) ?_
  refine EL_val (.bool ((((((decide (1 ≤ r.coll)) && (decide (r.coll ≤ 1099511627776))) && (decide (0 ≤ r.epoch))) && (decide (r.epoch ≤ 16))) && (decide (1 ≤ r.writer))) && (decide (r.writer ≤ 16)))) w19 rfl (r_move rfl) ?_
  refine EL_gite 31 rfl rfl rfl (ptr b18 3) rfl (fun g40 => r_fieldP (o := 0) (s := 1) rfl Try.underlying27 rfl (by kernel_rfl) (by decide) rfl) ?_
  refine EL_gite 31 rfl rfl rfl (.int .i64 r.count) rfl (fun g41 => r_loadA (cond_of g41 rfl) (S24.arr 0 rfl) (u := (.int .i64 r.count)) rfl Try.underlying3 rfl) ?_
  refine EL_gite 31 rfl rfl rfl (.bool (decide (1 ≤ r.count))) rfl (fun g42 => r_geq (cond_of g42 rfl) rfl) ?_
  refine EL_val (.bool (((((((decide (1 ≤ r.coll)) && (decide (r.coll ≤ 1099511627776))) && (decide (0 ≤ r.epoch))) && (decide (r.epoch ≤ 16))) && (decide (1 ≤ r.writer))) && (decide (r.writer ≤ 16))) && (decide (1 ≤ r.count)))) w19 rfl (r_and rfl rfl rfl) ?_
  refine EL_val (.bool (((((((decide (1 ≤ r.coll)) && (decide (r.coll ≤ 1099511627776))) && (decide (0 ≤ r.epoch))) && (decide (r.epoch ≤ 16))) && (decide (1 ≤ r.writer))) && (decide (r.writer ≤ 16))) && (decide (1 ≤ r.count)))) w19 rfl (r_move rfl) ?_
  refine EL_gite 36 rfl rfl rfl (ptr b18 3) rfl (fun g43 => r_fieldP (o := 0) (s := 1) rfl Try.underlying27 rfl (by kernel_rfl) (by decide) rfl) ?_
  refine EL_gite 36 rfl rfl rfl (.int .i64 r.count) rfl (fun g44 => r_loadA (cond_of g44 rfl) (S24.arr 0 rfl) (u := (.int .i64 r.count)) rfl Try.underlying3 rfl) ?_
  refine EL_gite 36 rfl rfl rfl (.bool (decide (r.count ≤ 1099511627776))) rfl (fun g45 => r_leq (cond_of g45 rfl) rfl) ?_
  refine EL_val (.bool ((((((((decide (1 ≤ r.coll)) && (decide (r.coll ≤ 1099511627776))) && (decide (0 ≤ r.epoch))) && (decide (r.epoch ≤ 16))) && (decide (1 ≤ r.writer))) && (decide (r.writer ≤ 16))) && (decide (1 ≤ r.count))) && (decide (r.count ≤ 1099511627776)))) w19 rfl (r_and rfl rfl rfl) ?_
  refine EL_val (.bool ((((((((decide (1 ≤ r.coll)) && (decide (r.coll ≤ 1099511627776))) && (decide (0 ≤ r.epoch))) && (decide (r.epoch ≤ 16))) && (decide (1 ≤ r.writer))) && (decide (r.writer ≤ 16))) && (decide (1 ≤ r.count))) && (decide (r.count ≤ 1099511627776)))) w19 rfl (r_assign rfl) ?_
  refine EL_nil ?_
  refine thn_n ?_
  refine EC_ret ?_
  refine fin1 Try.results40 (show _ = .bool ((((((((decide (1 ≤ r.coll)) && (decide (r.coll ≤ 1099511627776))) && (decide (0 ≤ r.epoch))) && (decide (r.epoch ≤ 16))) && (decide (1 ≤ r.writer))) && (decide (r.writer ≤ 16))) && (decide (1 ≤ r.count))) && (decide (r.count ≤ 1099511627776))) from rfl) ⟨_, rfl, ?_⟩
  have S46 := S24.dr0
  exact ⟨rfl, S46⟩

set_option maxRecDepth 100000 in
set_option maxHeartbeats 4000000 in
theorem RRight_c (cr : List Value) (r : Record) (I : Gh) (R : List HP) (w : World) (S : Sat w I (R)) (hr : recR.r I cr r) : Ret Try.prog 30 [.agg cr.toArray] w fun v w' => .bool r.right = v ∧ Sat w' I (R) := by
  obtain ⟨v15, rfl, r11, r12, r13, r14, ⟨o16, H17⟩⟩ := hr
  refine ret_E Try.func30 rfl Try.ntmps30 (by simp) ?_
  refine EC_seq ?_
  refine EC_reg ?_
  refine EL_box [.int .i64 r.coll, .int .i64 r.epoch, .int .i64 r.writer, .int .i64 r.count, v15] rfl rfl rfl ?_
  intro b18 w19 k20 A21 B22 z23
  have S24 := S.newB B22 A21 k20
  refine EL_val (.bool false) w19 rfl (r_assign rfl) ?_
  refine EL_nil ?_
  refine thn_n ?_
  refine EC_seq ?_
  rcases (by cases r.nums <;> simp : r.nums = true ∨ r.nums = false) with hnu | hnu
  · refine EC_reg ?_
    refine EL_val (.agg ([.int .i64 r.coll, .int .i64 r.epoch, .int .i64 r.writer, .int .i64 r.count, v15]).toArray) w19 rfl (r_loadAll rfl (S24.arr 0 rfl) Try.underlying27 rfl (by kernel_rfl)) ?_
    refine EL_ret _ rfl Try.func40 rfl nm40 rfl (nums_c [.int .i64 r.coll, .int .i64 r.epoch, .int .i64 r.writer, .int .i64 r.count, v15] r I _ _ S24 ⟨v15, rfl, (by first | assumption | omega | (dsimp only; omega)), (by first | assumption | omega | (dsimp only; omega)), (by first | assumption | omega | (dsimp only; omega)), (by first | assumption | omega | (dsimp only; omega)), ⟨o16, H17⟩⟩) ?_
    rintro _ w25 ⟨rfl, S26⟩
    refine EL_val (.bool true) w25 rfl (r_move (Eq.trans (show _ = Value.bool (r.nums) from rfl) (congrArg Value.bool (show (r.nums) = true from hnu)))) ?_
    refine EL_gval 5 rfl rfl rfl rfl (ptr b18 4) w25 rfl (r_fieldP (o := 0) (s := 1) rfl Try.underlying27 rfl (by kernel_rfl) (by decide) rfl) ?_
    refine EL_gval 5 rfl rfl rfl rfl v15 w25 rfl (r_loadA rfl (S26.arr 0 rfl) (u := v15) rfl Try.underlying22 rfl) ?_
    refine EL_gval 5 rfl rfl rfl rfl (.int .i64 (r.box.length : Int)) w25 rfl (lenB (r_len rfl (H17 _ S26.le) Try.underlying22)) ?_
    refine EL_gval 5 rfl rfl rfl rfl (.bool (decide (80 ≤ (r.box.length : Int)))) w25 rfl (r_geq rfl rfl) ?_
    refine EL_val (.bool (decide (80 ≤ (r.box.length : Int)))) w25 rfl (r_pickT rfl rfl) ?_
    refine EL_val (.bool (decide (80 ≤ (r.box.length : Int)))) w25 rfl (r_move rfl) ?_
    refine EL_gite 11 rfl rfl rfl (ptr b18 4) rfl (fun g27 => r_fieldP (o := 0) (s := 1) rfl Try.underlying27 rfl (by kernel_rfl) (by decide) rfl) ?_
    refine EL_gite 11 rfl rfl rfl v15 rfl (fun g28 => r_loadA (cond_of g28 rfl) (S26.arr 0 rfl) (u := v15) rfl Try.underlying22 rfl) ?_
    refine EL_gite 11 rfl rfl rfl (.int .i64 (r.box.length : Int)) rfl (fun g29 => lenB (r_len (cond_of g29 rfl) (H17 _ S26.le) Try.underlying22)) ?_
    refine EL_gite 11 rfl rfl rfl (.bool (decide ((r.box.length : Int) ≤ 2064))) rfl (fun g30 => r_leq (cond_of g30 rfl) rfl) ?_
    refine EL_val (.bool ((decide (80 ≤ (r.box.length : Int))) && (decide ((r.box.length : Int) ≤ 2064)))) w25 rfl (r_and rfl rfl rfl) ?_
    refine EL_val (.bool ((decide (80 ≤ (r.box.length : Int))) && (decide ((r.box.length : Int) ≤ 2064)))) w25 rfl (r_assign rfl) ?_
    refine EL_nil ?_
    refine thn_n ?_
    refine EC_ret ?_
    refine fin1 Try.results30 (show _ = .bool ((decide (80 ≤ (r.box.length : Int))) && (decide ((r.box.length : Int) ≤ 2064))) from rfl) ⟨_, rfl, ?_⟩
    have S31 := S26.dr0
    exact ⟨(congrArg Value.bool (by rw [Record.right, hnu] <;> simp)), S31⟩
  · refine EC_reg ?_
    refine EL_val (.agg ([.int .i64 r.coll, .int .i64 r.epoch, .int .i64 r.writer, .int .i64 r.count, v15]).toArray) w19 rfl (r_loadAll rfl (S24.arr 0 rfl) Try.underlying27 rfl (by kernel_rfl)) ?_
    refine EL_ret _ rfl Try.func40 rfl nm40 rfl (nums_c [.int .i64 r.coll, .int .i64 r.epoch, .int .i64 r.writer, .int .i64 r.count, v15] r I _ _ S24 ⟨v15, rfl, (by first | assumption | omega | (dsimp only; omega)), (by first | assumption | omega | (dsimp only; omega)), (by first | assumption | omega | (dsimp only; omega)), (by first | assumption | omega | (dsimp only; omega)), ⟨o16, H17⟩⟩) ?_
    rintro _ w32 ⟨rfl, S33⟩
    refine EL_val (.bool false) w32 rfl (r_move (Eq.trans (show _ = Value.bool (r.nums) from rfl) (congrArg Value.bool (show (r.nums) = false from hnu)))) ?_
    refine EL_pass 5 rfl rfl rfl rfl rfl ?_
    refine EL_pass 5 rfl rfl rfl rfl rfl ?_
    refine EL_pass 5 rfl rfl rfl rfl rfl ?_
    refine EL_pass 5 rfl rfl rfl rfl rfl ?_
    refine EL_val (.bool false) w32 rfl (r_pickF rfl rfl) ?_
    refine EL_val (.bool false) w32 rfl (r_move rfl) ?_
    refine EL_pass 11 rfl rfl rfl rfl rfl ?_
    refine EL_pass 11 rfl rfl rfl rfl rfl ?_
    refine EL_pass 11 rfl rfl rfl rfl rfl ?_
    refine EL_pass 11 rfl rfl rfl rfl rfl ?_
    refine EL_val (.bool false) w32 rfl (r_pickF rfl rfl) ?_
    refine EL_val (.bool false) w32 rfl (r_assign rfl) ?_
    refine EL_nil ?_
    refine thn_n ?_
    refine EC_ret ?_
    refine fin1 Try.results30 (show _ = .bool false from rfl) ⟨_, rfl, ?_⟩
    have S34 := S33.dr0
    exact ⟨(congrArg Value.bool (by rw [Record.right, hnu] <;> simp)), S34⟩

set_option maxRecDepth 100000 in
set_option maxHeartbeats 4000000 in
theorem front_c (cr : List Value) (r : Record) (I : Gh) (R : List HP) (w : World) (S : Sat w I (R)) (hr : recR.r I cr r) : Ret Try.prog 46 [.agg cr.toArray] w fun v w' => ∃ v1 : Value, ∃ J : Gh, Gh.le I J ∧ v1 = v ∧ Sat w' J (OwnB v1 r.front :: R) := by
  obtain ⟨v15, rfl, r11, r12, r13, r14, ⟨o16, H17⟩⟩ := hr
  refine ret_E Try.func46 rfl Try.ntmps46 (by simp) ?_
  refine EC_seq ?_
  refine EC_reg ?_
  refine EL_box [.int .i64 r.coll, .int .i64 r.epoch, .int .i64 r.writer, .int .i64 r.count, v15] rfl rfl rfl ?_
  intro b18 w19 k20 A21 B22 z23
  have S24 := S.newB B22 A21 k20
  refine EL_val (.slice none 0 0) w19 rfl (r_assign rfl) ?_
  refine EL_nil ?_
  refine thn_n ?_
  refine EC_seq ?_
  refine EC_reg ?_
  refine EL_val (ptr b18 0) w19 rfl (r_fieldP (o := 0) (s := 1) rfl Try.underlying27 rfl (by kernel_rfl) (by decide) rfl) ?_
  refine EL_val (.int .i64 r.coll) w19 rfl (r_loadA rfl (S24.arr 0 rfl) (u := (.int .i64 r.coll)) rfl Try.underlying3 rfl) ?_
  refine EL_val (.iface 3 (.int .i64 r.coll)) w19 rfl (r_iface rfl Try.underlying3 rfl) ?_
  refine EL_val (ptr b18 1) w19 rfl (r_fieldP (o := 0) (s := 1) rfl Try.underlying27 rfl (by kernel_rfl) (by decide) rfl) ?_
  refine EL_val (.int .i64 r.epoch) w19 rfl (r_loadA rfl (S24.arr 0 rfl) (u := (.int .i64 r.epoch)) rfl Try.underlying3 rfl) ?_
  refine EL_val (.iface 3 (.int .i64 r.epoch)) w19 rfl (r_iface rfl Try.underlying3 rfl) ?_
  refine EL_val (ptr b18 2) w19 rfl (r_fieldP (o := 0) (s := 1) rfl Try.underlying27 rfl (by kernel_rfl) (by decide) rfl) ?_
  refine EL_val (.int .i64 r.writer) w19 rfl (r_loadA rfl (S24.arr 0 rfl) (u := (.int .i64 r.writer)) rfl Try.underlying3 rfl) ?_
  refine EL_val (.iface 3 (.int .i64 r.writer)) w19 rfl (r_iface rfl Try.underlying3 rfl) ?_
  refine EL_val (ptr b18 3) w19 rfl (r_fieldP (o := 0) (s := 1) rfl Try.underlying27 rfl (by kernel_rfl) (by decide) rfl) ?_
  refine EL_val (.int .i64 r.count) w19 rfl (r_loadA rfl (S24.arr 0 rfl) (u := (.int .i64 r.count)) rfl Try.underlying3 rfl) ?_
  refine EL_val (.iface 3 (.int .i64 r.count)) w19 rfl (r_iface rfl Try.underlying3 rfl) ?_
  refine EL_lit1 (l := [(0, .iface 3 (.int .i64 r.coll)), (1, .iface 3 (.int .i64 r.epoch)), (2, .iface 3 (.int .i64 r.writer)), (3, .iface 3 (.int .i64 r.count))]) w19.heap.size [.iface 3 (.int .i64 r.coll), .iface 3 (.int .i64 r.epoch), .iface 3 (.int .i64 r.writer), .iface 3 (.int .i64 r.count)] el_101 rfl (by decide) rfl (Nat.le_refl _) (parts4 rfl rfl rfl rfl) (Eq.trans (show Instr.fill _ _ [(0, .iface 3 (.int .i64 r.coll)), (1, .iface 3 (.int .i64 r.epoch)), (2, .iface 3 (.int .i64 r.writer)), (3, .iface 3 (.int .i64 r.count))] = _ from (fill_one rfl rfl (by kernel_rfl) (fill_one rfl rfl (by kernel_rfl) (fill_one rfl rfl (by kernel_rfl) (fill_one rfl rfl (by kernel_rfl) fill_end))))) (by kernel_rfl)) ?_
  intro v25 w26 O27 B28 k29
  have S30 : Sat w26 I (OwnX 20 anyR v25 [(Any.int r.coll), (Any.int r.epoch), (Any.int r.writer), (Any.int r.count)] :: Blk b18 27 [.int .i64 r.coll, .int .i64 r.epoch, .int .i64 r.writer, .int .i64 r.count, v15] :: R) := OwnX.cls (xss := [[.iface 3 (.int .i64 r.coll)], [.iface 3 (.int .i64 r.epoch)], [.iface 3 (.int .i64 r.writer)], [.iface 3 (.int .i64 r.count)]]) (.cons ⟨rfl, (by first | assumption | omega)⟩ (.cons ⟨rfl, (by first | assumption | omega)⟩ (.cons ⟨rfl, (by first | assumption | omega)⟩ (.cons ⟨rfl, (by first | assumption | omega)⟩ .nil)))) (S24.newO B28 O27)
  have oH34 := (OwnX.one S30 0 rfl (by decide))
  obtain ⟨I31, le32, S33, H34⟩ := S30.fx0 (by decide)
  refine EL_ret _ rfl Try.func41 rfl nm41 rfl (Put_c v25 [(Any.int r.coll), (Any.int r.epoch), (Any.int r.writer), (Any.int r.count)] I31 _ _ S33 H34 (by simp)) ?_
  rintro _ w35 ⟨v37, rfl, S36⟩
  refine EL_val (.tuple #[v37, .int .i64 (putE [(Any.int r.coll), (Any.int r.epoch), (Any.int r.writer), (Any.int r.count)])]) w35 rfl (r_move rfl) ?_
  refine EL_val v37 w35 rfl (r_extract rfl rfl) ?_
  refine EL_val (.int .i64 (putE [(Any.int r.coll), (Any.int r.epoch), (Any.int r.writer), (Any.int r.count)])) w35 rfl (r_extract rfl rfl) ?_
  refine EL_val v37 w35 rfl (r_assign rfl) ?_
  refine EL_val (.int .i64 (putE [(Any.int r.coll), (Any.int r.epoch), (Any.int r.writer), (Any.int r.count)])) w35 rfl (r_assign rfl) ?_
  refine EL_nil ?_
  refine thn_n ?_
  refine EC_seq ?_
  refine EC_reg ?_
  refine EL_val v37 w35 rfl (r_move rfl) ?_
  refine EL_val v37 w35 rfl (r_assign rfl) ?_
  refine EL_nil ?_
  refine thn_n ?_
  refine EC_ret ?_
  refine fin1 Try.results46 (show _ = v37 from rfl) ⟨_, rfl, ?_⟩
  have S38 := S36.dr1
  exact ⟨v37, I31, le32, rfl, S38⟩

set_option maxRecDepth 100000 in
set_option maxHeartbeats 4000000 in
theorem REnc_c (cr : List Value) (r : Record) (I : Gh) (R : List HP) (w : World) (S : Sat w I (R)) (hr : recR.r I cr r) : Ret Try.prog 29 [.agg cr.toArray] w fun v w' => ∃ v1 : Value, ∃ J : Gh, Gh.le I J ∧ .tuple #[v1, .int .i64 r.encE] = v ∧ Sat w' J (OwnB v1 r.encB :: R) := by
  obtain ⟨v15, rfl, r11, r12, r13, r14, ⟨o16, H17⟩⟩ := hr
  refine ret_E Try.func29 rfl Try.ntmps29 (by simp) ?_
  refine EC_seq ?_
  refine EC_reg ?_
  refine EL_box [.int .i64 r.coll, .int .i64 r.epoch, .int .i64 r.writer, .int .i64 r.count, v15] rfl rfl rfl ?_
  intro b18 w19 k20 A21 B22 z23
  have S24 := S.newB B22 A21 k20
  refine EL_val (.slice none 0 0) w19 rfl (r_assign rfl) ?_
  refine EL_val (.int .i64 0) w19 rfl (r_assign rfl) ?_
  refine EL_nil ?_
  refine thn_n ?_
  refine EC_seq ?_
  refine EC_seq ?_
  refine EC_reg ?_
  refine EL_val (.agg ([.int .i64 r.coll, .int .i64 r.epoch, .int .i64 r.writer, .int .i64 r.count, v15]).toArray) w19 rfl (r_loadAll rfl (S24.arr 0 rfl) Try.underlying27 rfl (by kernel_rfl)) ?_
  refine EL_ret _ rfl Try.func30 rfl nm30 rfl (RRight_c [.int .i64 r.coll, .int .i64 r.epoch, .int .i64 r.writer, .int .i64 r.count, v15] r I _ _ S24 ⟨v15, rfl, (by first | assumption | omega | (dsimp only; omega)), (by first | assumption | omega | (dsimp only; omega)), (by first | assumption | omega | (dsimp only; omega)), (by first | assumption | omega | (dsimp only; omega)), ⟨o16, H17⟩⟩) ?_
  rintro _ w25 ⟨rfl, S26⟩
  refine EL_val (.bool !r.right) w25 rfl (r_not rfl) ?_
  refine EL_nil ?_
  refine thn_n ?_
  refine EC_cond (t := !r.right) rfl (fun h27 => ?_) (fun h27 => ?_)
  · have hrt : r.right = false := (Bool.not_eq_true' _).mp h27
    refine EC_seq ?_
    refine EC_reg ?_
    refine EL_val (.slice none 0 0) w25 rfl (r_assign rfl) ?_
    refine EL_val (.int .i64 10) w25 rfl (r_assign rfl) ?_
    refine EL_nil ?_
    refine thn_n ?_
    refine EC_ret ?_
    refine thn_r ?_
    refine fin2 Try.results29 (show _ = .slice none 0 0 from rfl) (show _ = .int .i64 10 from rfl) ⟨_, rfl, ?_⟩
    rw [show r.encB = [] from by rw [Record.encB, hrt]; rfl]
    have S29 : Sat w25 I (OwnB (.slice none 0 0) ([] : List UInt8) :: Blk b18 27 [.int .i64 r.coll, .int .i64 r.epoch, .int .i64 r.writer, .int .i64 r.count, v15] :: R) := S26.nil 5 1
    have S30 := S29.dr1
    exact ⟨(.slice none 0 0), I, (Gh.le_refl _), (by rw [Record.encE, hrt]; rfl), S30⟩
  · have hrt : r.right = true := (Bool.not_eq_false' _).mp h27
    refine EC_skip ?_
    refine thn_n ?_
    refine EC_seq ?_
    refine EC_reg ?_
    refine EL_val (ptr b18 0) w25 rfl (r_fieldP (o := 0) (s := 1) rfl Try.underlying27 rfl (by kernel_rfl) (by decide) rfl) ?_
    refine EL_val (.int .i64 r.coll) w25 rfl (r_loadA rfl (S26.arr 0 rfl) (u := (.int .i64 r.coll)) rfl Try.underlying3 rfl) ?_
    refine EL_val (.iface 3 (.int .i64 r.coll)) w25 rfl (r_iface rfl Try.underlying3 rfl) ?_
    refine EL_val (ptr b18 1) w25 rfl (r_fieldP (o := 0) (s := 1) rfl Try.underlying27 rfl (by kernel_rfl) (by decide) rfl) ?_
    refine EL_val (.int .i64 r.epoch) w25 rfl (r_loadA rfl (S26.arr 0 rfl) (u := (.int .i64 r.epoch)) rfl Try.underlying3 rfl) ?_
    refine EL_val (.iface 3 (.int .i64 r.epoch)) w25 rfl (r_iface rfl Try.underlying3 rfl) ?_
    refine EL_val (ptr b18 2) w25 rfl (r_fieldP (o := 0) (s := 1) rfl Try.underlying27 rfl (by kernel_rfl) (by decide) rfl) ?_
    refine EL_val (.int .i64 r.writer) w25 rfl (r_loadA rfl (S26.arr 0 rfl) (u := (.int .i64 r.writer)) rfl Try.underlying3 rfl) ?_
    refine EL_val (.iface 3 (.int .i64 r.writer)) w25 rfl (r_iface rfl Try.underlying3 rfl) ?_
    refine EL_val (ptr b18 3) w25 rfl (r_fieldP (o := 0) (s := 1) rfl Try.underlying27 rfl (by kernel_rfl) (by decide) rfl) ?_
    refine EL_val (.int .i64 r.count) w25 rfl (r_loadA rfl (S26.arr 0 rfl) (u := (.int .i64 r.count)) rfl Try.underlying3 rfl) ?_
    refine EL_val (.iface 3 (.int .i64 r.count)) w25 rfl (r_iface rfl Try.underlying3 rfl) ?_
    refine EL_val (ptr b18 4) w25 rfl (r_fieldP (o := 0) (s := 1) rfl Try.underlying27 rfl (by kernel_rfl) (by decide) rfl) ?_
    refine EL_val v15 w25 rfl (r_loadA rfl (S26.arr 0 rfl) (u := v15) rfl Try.underlying22 rfl) ?_
    refine EL_val (.iface 22 v15) w25 rfl (r_iface rfl Try.underlying22 rfl) ?_
    refine EL_lit1 (l := [(0, .iface 3 (.int .i64 r.coll)), (1, .iface 3 (.int .i64 r.epoch)), (2, .iface 3 (.int .i64 r.writer)), (3, .iface 3 (.int .i64 r.count)), (4, .iface 22 v15)]) w25.heap.size [.iface 3 (.int .i64 r.coll), .iface 3 (.int .i64 r.epoch), .iface 3 (.int .i64 r.writer), .iface 3 (.int .i64 r.count), .iface 22 v15] el_101 rfl (by decide) rfl (Nat.le_refl _) (parts5 rfl rfl rfl rfl rfl) (Eq.trans (show Instr.fill _ _ [(0, .iface 3 (.int .i64 r.coll)), (1, .iface 3 (.int .i64 r.epoch)), (2, .iface 3 (.int .i64 r.writer)), (3, .iface 3 (.int .i64 r.count)), (4, .iface 22 v15)] = _ from (fill_one rfl rfl (by kernel_rfl) (fill_one rfl rfl (by kernel_rfl) (fill_one rfl rfl (by kernel_rfl) (fill_one rfl rfl (by kernel_rfl) (fill_one rfl rfl (by kernel_rfl) fill_end)))))) (by kernel_rfl)) ?_
    intro v31 w32 O33 B34 k35
    have S36 : Sat w32 I (OwnX 20 anyR v31 [(Any.int r.coll), (Any.int r.epoch), (Any.int r.writer), (Any.int r.count), (Any.bytes r.box)] :: Blk b18 27 [.int .i64 r.coll, .int .i64 r.epoch, .int .i64 r.writer, .int .i64 r.count, v15] :: R) := OwnX.cls (xss := [[.iface 3 (.int .i64 r.coll)], [.iface 3 (.int .i64 r.epoch)], [.iface 3 (.int .i64 r.writer)], [.iface 3 (.int .i64 r.count)], [.iface 22 v15]]) (.cons ⟨rfl, (by first | assumption | omega)⟩ (.cons ⟨rfl, (by first | assumption | omega)⟩ (.cons ⟨rfl, (by first | assumption | omega)⟩ (.cons ⟨rfl, (by first | assumption | omega)⟩ (.cons ⟨_, rfl, o16, H17⟩ .nil))))) (S26.newO B34 O33)
    have oH40 := (OwnX.one S36 0 rfl (by decide))
    obtain ⟨I37, le38, S39, H40⟩ := S36.fx0 (by decide)
    refine EL_ret _ rfl Try.func41 rfl nm41 rfl (Put_c v31 [(Any.int r.coll), (Any.int r.epoch), (Any.int r.writer), (Any.int r.count), (Any.bytes r.box)] I37 _ _ S39 H40 (by simp)) ?_
    rintro _ w41 ⟨v43, rfl, S42⟩
    refine EL_val v43 w41 rfl (r_extract rfl rfl) ?_
    refine EL_val (.int .i64 (putE [(Any.int r.coll), (Any.int r.epoch), (Any.int r.writer), (Any.int r.count), (Any.bytes r.box)])) w41 rfl (r_extract rfl rfl) ?_
    refine EL_val v43 w41 rfl (r_assign rfl) ?_
    refine EL_val (.int .i64 (putE [(Any.int r.coll), (Any.int r.epoch), (Any.int r.writer), (Any.int r.count), (Any.bytes r.box)])) w41 rfl (r_assign rfl) ?_
    refine EL_nil ?_
    refine thn_n ?_
    refine EC_ret ?_
    refine fin2 Try.results29 (show _ = v43 from rfl) (show _ = .int .i64 (putE [(Any.int r.coll), (Any.int r.epoch), (Any.int r.writer), (Any.int r.count), (Any.bytes r.box)]) from rfl) ⟨_, rfl, ?_⟩
    have q45 : putB [(Any.int r.coll), (Any.int r.epoch), (Any.int r.writer), (Any.int r.count), (Any.bytes r.box)] = r.encB := by rw [Record.encB, if_pos hrt]; rfl
    have S44 := S42.ab0 q45
    have S46 := S44.dr1
    exact ⟨v43, I37, le38, (by rw [Record.encE, if_pos hrt]; rfl), S46⟩

set_option maxRecDepth 100000 in
set_option maxHeartbeats 4000000 in
theorem RDec_c (v0 : Value) (l : List UInt8) (I : Gh) (R : List HP) (w : World) (S : Sat w I (R)) (Q0 : RoB I v0 l) (hl : l.length ≤ 1000000000) : Ret Try.prog 32 [v0] w fun v w' => ∃ cr : List Value, ∃ J : Gh, Gh.le I J ∧ .tuple #[.agg cr.toArray, .int .i64 (recE l)] = v ∧ recR.r J cr (recV l) ∧ Sat w' J (R) := by
  have lq0 := RoB.le Q0 S.le
  refine ret_E Try.func32 rfl Try.ntmps32 (by simp) ?_
  refine EC_seq ?_
  refine EC_reg ?_
  refine EL_alloc (z := .agg #[.int .i64 0, .int .i64 0, .int .i64 0, .int .i64 0, .slice none 0 0]) [.int .i64 0, .int .i64 0, .int .i64 0, .int .i64 0, .slice none 0 0] rfl (by kernel_rfl) rfl ?_
  intro b11 w12 k13 A14 B15 z16
  have S17 := S.newB B15 A14 k13
  refine EL_val (.int .i64 0) w12 rfl (r_assign rfl) ?_
  refine EL_nil ?_
  refine thn_n ?_
  refine EC_seq ?_
  refine EC_reg ?_
  refine EL_val v0 w12 rfl (r_move rfl) ?_
  refine EL_ret _ rfl Try.func58 rfl nm58 rfl (Read_c v0 l I _ _ S17 Q0 (by first | assumption | omega | (simp; done) | (simp; omega))) ?_
  rintro _ w18 ⟨p20, I21, le22, rfl, S19⟩
  obtain ⟨q23, rfl⟩ := RdP.ptr S19
  refine EL_val (ptr q23) w18 rfl (r_assign rfl) ?_
  refine EL_nil ?_
  refine thn_n ?_
  refine EC_seq ?_
  refine EC_reg ?_
  refine EL_alloc (z := .agg #[.int .i64 0, .int .i64 0, .int .i64 0, .int .i64 0, .slice none 0 0]) [.int .i64 0, .int .i64 0, .int .i64 0, .int .i64 0, .slice none 0 0] rfl (by kernel_rfl) rfl ?_
  intro b24 w25 k26 A27 B28 z29
  have S30 := S19.newB B28 A27 k26
  refine EL_nil ?_
  refine thn_n ?_
  refine EC_seq ?_
  refine EC_reg ?_
  refine EL_val (ptr q23) w25 rfl (r_move rfl) ?_
  have S31 := S30.fr1
  refine EL_ret _ rfl Try.func68 rfl nm68 rfl (Number_c (ptr q23) (Rd.mk l false) 1 1099511627776 I21 _ _ S31) ?_
  rintro _ w32 ⟨I34, le35, rfl, S33⟩
  have hn36 := rdNum_rng (Rd.mk l false) 1 (hi := 1099511627776) (by omega)
  refine EL_val (ptr b24 0) w32 rfl (r_fieldP (o := 0) (s := 1) rfl Try.underlying27 rfl (by kernel_rfl) (by decide) rfl) ?_
  refine EL_storeA (j := 0) (u := .int .i64 (rdNum (Rd.mk l false) 1 1099511627776)) rfl rfl (S33.arr 1 rfl) (by first | decide | (simp; omega) | simp) rfl (by kernel_rfl) ?_
  intro w37 A38 K39 z40
  have S41 := S33.wr1 (ds := [.int .i64 (rdNum (Rd.mk l false) 1 1099511627776), .int .i64 0, .int .i64 0, .int .i64 0, .slice none 0 0]) K39 A38
  refine EL_nil ?_
  refine thn_n ?_
  refine EC_seq ?_
  refine EC_reg ?_
  refine EL_val (ptr q23) w37 rfl (r_move rfl) ?_
  refine EL_ret _ rfl Try.func68 rfl nm68 rfl (Number_c (ptr q23) (rdNumS (Rd.mk l false) 1 1099511627776) 0 16 I34 _ _ S41) ?_
  rintro _ w42 ⟨I44, le45, rfl, S43⟩
  have hn46 := rdNum_rng (rdNumS (Rd.mk l false) 1 1099511627776) 0 (hi := 16) (by omega)
  refine EL_val (ptr b24 1) w42 rfl (r_fieldP (o := 0) (s := 1) rfl Try.underlying27 rfl (by kernel_rfl) (by decide) rfl) ?_
  refine EL_storeA (j := 1) (u := .int .i64 (rdNum (rdNumS (Rd.mk l false) 1 1099511627776) 0 16)) rfl rfl (S43.arr 1 rfl) (by first | decide | (simp; omega) | simp) rfl (by kernel_rfl) ?_
  intro w47 A48 K49 z50
  have S51 := S43.wr1 (ds := [.int .i64 (rdNum (Rd.mk l false) 1 1099511627776), .int .i64 (rdNum (rdNumS (Rd.mk l false) 1 1099511627776) 0 16), .int .i64 0, .int .i64 0, .slice none 0 0]) K49 A48
  refine EL_nil ?_
  refine thn_n ?_
  refine EC_seq ?_
  refine EC_reg ?_
  refine EL_val (ptr q23) w47 rfl (r_move rfl) ?_
  refine EL_ret _ rfl Try.func68 rfl nm68 rfl (Number_c (ptr q23) (rdNumS (rdNumS (Rd.mk l false) 1 1099511627776) 0 16) 1 16 I44 _ _ S51) ?_
  rintro _ w52 ⟨I54, le55, rfl, S53⟩
  have hn56 := rdNum_rng (rdNumS (rdNumS (Rd.mk l false) 1 1099511627776) 0 16) 1 (hi := 16) (by omega)
  refine EL_val (ptr b24 2) w52 rfl (r_fieldP (o := 0) (s := 1) rfl Try.underlying27 rfl (by kernel_rfl) (by decide) rfl) ?_
  refine EL_storeA (j := 2) (u := .int .i64 (rdNum (rdNumS (rdNumS (Rd.mk l false) 1 1099511627776) 0 16) 1 16)) rfl rfl (S53.arr 1 rfl) (by first | decide | (simp; omega) | simp) rfl (by kernel_rfl) ?_
  intro w57 A58 K59 z60
  have S61 := S53.wr1 (ds := [.int .i64 (rdNum (Rd.mk l false) 1 1099511627776), .int .i64 (rdNum (rdNumS (Rd.mk l false) 1 1099511627776) 0 16), .int .i64 (rdNum (rdNumS (rdNumS (Rd.mk l false) 1 1099511627776) 0 16) 1 16), .int .i64 0, .slice none 0 0]) K59 A58
  refine EL_nil ?_
  refine thn_n ?_
  refine EC_seq ?_
  refine EC_reg ?_
  refine EL_val (ptr q23) w57 rfl (r_move rfl) ?_
  refine EL_ret _ rfl Try.func68 rfl nm68 rfl (Number_c (ptr q23) (rdNumS (rdNumS (rdNumS (Rd.mk l false) 1 1099511627776) 0 16) 1 16) 1 1099511627776 I54 _ _ S61) ?_
  rintro _ w62 ⟨I64, le65, rfl, S63⟩
  have hn66 := rdNum_rng (rdNumS (rdNumS (rdNumS (Rd.mk l false) 1 1099511627776) 0 16) 1 16) 1 (hi := 1099511627776) (by omega)
  refine EL_val (ptr b24 3) w62 rfl (r_fieldP (o := 0) (s := 1) rfl Try.underlying27 rfl (by kernel_rfl) (by decide) rfl) ?_
  refine EL_storeA (j := 3) (u := .int .i64 (rdNum (rdNumS (rdNumS (rdNumS (Rd.mk l false) 1 1099511627776) 0 16) 1 16) 1 1099511627776)) rfl rfl (S63.arr 1 rfl) (by first | decide | (simp; omega) | simp) rfl (by kernel_rfl) ?_
  intro w67 A68 K69 z70
  have S71 := S63.wr1 (ds := [.int .i64 (rdNum (Rd.mk l false) 1 1099511627776), .int .i64 (rdNum (rdNumS (Rd.mk l false) 1 1099511627776) 0 16), .int .i64 (rdNum (rdNumS (rdNumS (Rd.mk l false) 1 1099511627776) 0 16) 1 16), .int .i64 (rdNum (rdNumS (rdNumS (rdNumS (Rd.mk l false) 1 1099511627776) 0 16) 1 16) 1 1099511627776), .slice none 0 0]) K69 A68
  refine EL_nil ?_
  refine thn_n ?_
  refine EC_seq ?_
  refine EC_reg ?_
  refine EL_val (ptr q23) w67 rfl (r_move rfl) ?_
  refine EL_ret _ rfl Try.func59 rfl nm59 rfl (Text_c (ptr q23) (rdNumS (rdNumS (rdNumS (rdNumS (Rd.mk l false) 1 1099511627776) 0 16) 1 16) 1 1099511627776) 80 2064 I64 _ _ S71) ?_
  rintro _ w72 ⟨u74, I75, le76, rfl, H77, S73⟩
  refine EL_val (ptr b24 4) w72 rfl (r_fieldP (o := 0) (s := 1) rfl Try.underlying27 rfl (by kernel_rfl) (by decide) rfl) ?_
  refine EL_storeA (j := 4) (u := u74) rfl rfl (S73.arr 1 rfl) (by first | decide | (simp; omega) | simp) (row_one (H77 _ S73.le)) (by kernel_rfl) ?_
  intro w78 A79 K80 z81
  have S82 := S73.wr1 (ds := [.int .i64 (rdNum (Rd.mk l false) 1 1099511627776), .int .i64 (rdNum (rdNumS (Rd.mk l false) 1 1099511627776) 0 16), .int .i64 (rdNum (rdNumS (rdNumS (Rd.mk l false) 1 1099511627776) 0 16) 1 16), .int .i64 (rdNum (rdNumS (rdNumS (rdNumS (Rd.mk l false) 1 1099511627776) 0 16) 1 16) 1 1099511627776), u74]) K80 A79
  refine EL_nil ?_
  refine thn_n ?_
  refine EC_seq ?_
  refine EC_seq ?_
  refine EC_reg ?_
  refine EL_val (ptr q23) w78 rfl (r_move rfl) ?_
  refine EL_ret _ rfl Try.func61 rfl nm61 rfl (End_c (ptr q23) (rdTxtS (rdNumS (rdNumS (rdNumS (rdNumS (Rd.mk l false) 1 1099511627776) 0 16) 1 16) 1 1099511627776) 80 2064) I75 _ _ S82) ?_
  rintro _ w83 ⟨rfl, S84⟩
  refine EL_val (.bool (!(rdEnd (rdTxtS (rdNumS (rdNumS (rdNumS (rdNumS (Rd.mk l false) 1 1099511627776) 0 16) 1 16) 1 1099511627776) 80 2064)))) w83 rfl (r_not rfl) ?_
  refine EL_nil ?_
  refine thn_n ?_
  refine EC_cond (t := !(rdEnd (rdTxtS (rdNumS (rdNumS (rdNumS (rdNumS (Rd.mk l false) 1 1099511627776) 0 16) 1 16) 1 1099511627776) 80 2064))) rfl (fun h85 => ?_) (fun h85 => ?_)
  · have hen : rdEnd _ = false := (Bool.not_eq_true' _).mp h85
    refine EC_seq ?_
    refine EC_reg ?_
    refine EL_val (.agg ([.int .i64 0, .int .i64 0, .int .i64 0, .int .i64 0, .slice none 0 0]).toArray) w83 rfl (r_buildS (l := []) st_27 rfl (Eq.trans (show Instr.fill _ _ [] = _ from fill_end) (by kernel_rfl))) ?_
    refine EL_storeAll (v := .agg ([.int .i64 0, .int .i64 0, .int .i64 0, .int .i64 0, .slice none 0 0]).toArray) (cs' := ([.int .i64 0, .int .i64 0, .int .i64 0, .int .i64 0, .slice none 0 0]).toArray) rfl rfl rfl (S84.arr 2 rfl) rfl (by kernel_rfl) (by simp [Value.oneCell']) ?_
    intro w86 A87 K88 z89
    have S90 := S84.wr2 (ds := [.int .i64 0, .int .i64 0, .int .i64 0, .int .i64 0, .slice none 0 0]) K88 A87
    refine EL_val (.int .i64 10) w86 rfl (r_assign rfl) ?_
    refine EL_nil ?_
    refine thn_n ?_
    refine EC_ret ?_
    refine thn_r ?_
    refine fin2c Try.results32 (show _ = ptr b11 from rfl) (show _ = .int .i64 10 from rfl) (S90.arr 2 rfl) Try.underlying27 rfl (by kernel_rfl) ⟨_, rfl, ?_⟩
    have hok : recOk l = false := hen
    have q91 : (recV l) = (⟨0, 0, 0, 0, []⟩ : Record) := by rw [recV, hok]; rfl
    have S92 := S90.dr0
    have S93 := S92.dr0
    have S94 := S93.dr0
    exact ⟨[.int .i64 0, .int .i64 0, .int .i64 0, .int .i64 0, .slice none 0 0], I75, (Gh.le_trans (Gh.le_trans (Gh.le_trans (Gh.le_trans (Gh.le_trans le22 le35) le45) le55) le65) le76), (by rw [recE, hok]; rfl), (by rw [q91]; exact ⟨(.slice none 0 0), rfl, (by first | assumption | omega | (dsimp only; omega)), (by first | assumption | omega | (dsimp only; omega)), (by first | assumption | omega | (dsimp only; omega)), (by first | assumption | omega | (dsimp only; omega)), ⟨rfl, Ro.nil⟩⟩), S94⟩
  · have hen : rdEnd _ = true := (Bool.not_eq_false' _).mp h85
    refine EC_skip ?_
    refine thn_n ?_
    refine EC_seq ?_
    refine EC_reg ?_
    refine EL_val (.agg ([.int .i64 (rdNum (Rd.mk l false) 1 1099511627776), .int .i64 (rdNum (rdNumS (Rd.mk l false) 1 1099511627776) 0 16), .int .i64 (rdNum (rdNumS (rdNumS (Rd.mk l false) 1 1099511627776) 0 16) 1 16), .int .i64 (rdNum (rdNumS (rdNumS (rdNumS (Rd.mk l false) 1 1099511627776) 0 16) 1 16) 1 1099511627776), u74]).toArray) w83 rfl (r_loadAll rfl (S84.arr 1 rfl) Try.underlying27 rfl (by kernel_rfl)) ?_
    refine EL_storeAll (v := .agg ([.int .i64 (rdNum (Rd.mk l false) 1 1099511627776), .int .i64 (rdNum (rdNumS (Rd.mk l false) 1 1099511627776) 0 16), .int .i64 (rdNum (rdNumS (rdNumS (Rd.mk l false) 1 1099511627776) 0 16) 1 16), .int .i64 (rdNum (rdNumS (rdNumS (rdNumS (Rd.mk l false) 1 1099511627776) 0 16) 1 16) 1 1099511627776), u74]).toArray) (cs' := ([.int .i64 (rdNum (Rd.mk l false) 1 1099511627776), .int .i64 (rdNum (rdNumS (Rd.mk l false) 1 1099511627776) 0 16), .int .i64 (rdNum (rdNumS (rdNumS (Rd.mk l false) 1 1099511627776) 0 16) 1 16), .int .i64 (rdNum (rdNumS (rdNumS (rdNumS (Rd.mk l false) 1 1099511627776) 0 16) 1 16) 1 1099511627776), u74]).toArray) rfl rfl rfl (S84.arr 2 rfl) rfl (by kernel_rfl) (ones_cons rfl (ones_cons rfl (ones_cons rfl (ones_cons rfl (ones_cons (row_one (H77 _ S84.le)) (fun _ h => nomatch h)))))) ?_
    intro w95 A96 K97 z98
    have S99 := S84.wr2 (ds := [.int .i64 (rdNum (Rd.mk l false) 1 1099511627776), .int .i64 (rdNum (rdNumS (Rd.mk l false) 1 1099511627776) 0 16), .int .i64 (rdNum (rdNumS (rdNumS (Rd.mk l false) 1 1099511627776) 0 16) 1 16), .int .i64 (rdNum (rdNumS (rdNumS (rdNumS (Rd.mk l false) 1 1099511627776) 0 16) 1 16) 1 1099511627776), u74]) K97 A96
    refine EL_val (.int .i64 0) w95 rfl (r_assign rfl) ?_
    refine EL_nil ?_
    refine thn_n ?_
    refine EC_ret ?_
    refine fin2c Try.results32 (show _ = ptr b11 from rfl) (show _ = .int .i64 0 from rfl) (S99.arr 2 rfl) Try.underlying27 rfl (by kernel_rfl) ⟨_, rfl, ?_⟩
    have hok : recOk l = true := hen
    have q100 : (recV l) = (⟨rdNum (Rd.mk l false) 1 1099511627776, rdNum (rdNumS (Rd.mk l false) 1 1099511627776) 0 16, rdNum (rdNumS (rdNumS (Rd.mk l false) 1 1099511627776) 0 16) 1 16, rdNum (rdNumS (rdNumS (rdNumS (Rd.mk l false) 1 1099511627776) 0 16) 1 16) 1 1099511627776, rdTxt (rdNumS (rdNumS (rdNumS (rdNumS (Rd.mk l false) 1 1099511627776) 0 16) 1 16) 1 1099511627776) 80 2064⟩ : Record) := by rw [recV, if_pos hok]; rfl
    have S101 := S99.dr0
    have S102 := S101.dr0
    have S103 := S102.dr0
    exact ⟨[.int .i64 (rdNum (Rd.mk l false) 1 1099511627776), .int .i64 (rdNum (rdNumS (Rd.mk l false) 1 1099511627776) 0 16), .int .i64 (rdNum (rdNumS (rdNumS (Rd.mk l false) 1 1099511627776) 0 16) 1 16), .int .i64 (rdNum (rdNumS (rdNumS (rdNumS (Rd.mk l false) 1 1099511627776) 0 16) 1 16) 1 1099511627776), u74], I75, (Gh.le_trans (Gh.le_trans (Gh.le_trans (Gh.le_trans (Gh.le_trans le22 le35) le45) le55) le65) le76), (by rw [recE, if_pos hok]), (by rw [q100]; exact ⟨u74, rfl, (by first | assumption | omega | (dsimp only; omega)), (by first | assumption | omega | (dsimp only; omega)), (by first | assumption | omega | (dsimp only; omega)), (by first | assumption | omega | (dsimp only; omega)), ⟨(row_one (H77 _ S103.le)), H77⟩⟩), S103⟩

set_option maxRecDepth 100000 in
set_option maxHeartbeats 4000000 in
theorem mark_c (p : Value) (L : List Thing) (v0 : Value) (s : List UInt8) (coll : Int) (who : Int) (v1 : Value) (b : List UInt8) (I : Gh) (R : List HP) (w : World) (S : Sat w I (Suite p L :: R)) (Q0 : RoB I v0 s) (Q1 : RoB I v1 b) (hl : L.length ≤ 900000) (hs : s.length ≤ 100000) (hc : -9223372036854775808 ≤ coll ∧ coll ≤ 9223372036854775807) : Ret Try.prog 43 [p, v0, .int .i64 coll, .int .i64 who, v1] w fun v w' => ∃ v2 : Value, ∃ J : Gh, Gh.le I J ∧ v2 = v ∧ Sat w' J (OwnB v2 (markB L s coll who b) :: Suite p (markL L s coll who b) :: R) := by
  have lq0 := RoB.le Q0 S.le
  have lq1 := RoB.le Q1 S.le
  refine ret_E Try.func43 rfl Try.ntmps43 (by simp) ?_
  refine EC_seq ?_
  refine EC_reg ?_
  refine EL_val (.slice none 0 0) w rfl (r_assign rfl) ?_
  refine EL_nil ?_
  refine thn_n ?_
  refine EC_seq ?_
  refine EC_reg ?_
  refine EL_val p w rfl (r_move rfl) ?_
  refine EL_val v0 w rfl (r_move rfl) ?_
  refine EL_val (.int .i64 who) w rfl (r_move rfl) ?_
  refine EL_ret _ rfl Try.func73 rfl nm73 rfl (Writer_c p L v0 s who I _ _ S Q0 (by omega) (by first | assumption | omega | (simp; done) | (simp; omega))) ?_
  rintro _ w11 ⟨v13, I14, le15, rfl, S12⟩
  refine EL_val (.tuple #[v13, .int .i64 (rightE who)]) w11 rfl (r_move rfl) ?_
  refine EL_val v13 w11 rfl (r_extract rfl rfl) ?_
  refine EL_val (.int .i64 (rightE who)) w11 rfl (r_extract rfl rfl) ?_
  refine EL_val v13 w11 rfl (r_assign rfl) ?_
  refine EL_val (.int .i64 (rightE who)) w11 rfl (r_assign rfl) ?_
  refine EL_nil ?_
  refine thn_n ?_
  refine EC_seq ?_
  refine EC_reg ?_
  refine EL_val (.int .i64 coll) w11 rfl (r_move rfl) ?_
  refine EL_val (.iface 3 (.int .i64 coll)) w11 rfl (r_iface rfl Try.underlying3 rfl) ?_
  refine EL_val v1 w11 rfl (r_move rfl) ?_
  refine EL_val (.iface 22 v1) w11 rfl (r_iface rfl Try.underlying22 rfl) ?_
  refine EL_lit1 (l := [(0, .iface 3 (.int .i64 coll)), (1, .iface 22 v1)]) w11.heap.size [.iface 3 (.int .i64 coll), .iface 22 v1] el_101 rfl (by decide) rfl (Nat.le_refl _) (parts2 rfl rfl) (Eq.trans (show Instr.fill _ _ [(0, .iface 3 (.int .i64 coll)), (1, .iface 22 v1)] = _ from (fill_one rfl rfl (by kernel_rfl) (fill_one rfl rfl (by kernel_rfl) fill_end))) (by kernel_rfl)) ?_
  intro v16 w17 O18 B19 k20
  have S21 : Sat w17 I14 (OwnX 20 anyR v16 [(Any.int coll), (Any.bytes b)] :: OwnB v13 (rightB L s uWriter who) :: Suite p (rightL L s uWriter who) :: R) := OwnX.cls (xss := [[.iface 3 (.int .i64 coll)], [.iface 22 v1]]) (.cons ⟨rfl, (by first | assumption | omega)⟩ (.cons ⟨_, rfl, (row_one (Q1 _ (Gh.le_trans le15 S12.le))), (Q1.up le15)⟩ .nil)) (S12.newO B19 O18)
  have oH25 := (OwnX.one S21 0 rfl (by decide))
  obtain ⟨I22, le23, S24, H25⟩ := S21.fx0 (by decide)
  refine EL_ret _ rfl Try.func41 rfl nm41 rfl (Put_c v16 [(Any.int coll), (Any.bytes b)] I22 _ _ S24 H25 (by simp)) ?_
  rintro _ w26 ⟨v28, rfl, S27⟩
  refine EL_val (.tuple #[v28, .int .i64 (putE [(Any.int coll), (Any.bytes b)])]) w26 rfl (r_move rfl) ?_
  refine EL_val v28 w26 rfl (r_extract rfl rfl) ?_
  refine EL_val (.int .i64 (putE [(Any.int coll), (Any.bytes b)])) w26 rfl (r_extract rfl rfl) ?_
  refine EL_val v28 w26 rfl (r_assign rfl) ?_
  refine EL_val (.int .i64 (putE [(Any.int coll), (Any.bytes b)])) w26 rfl (r_assign rfl) ?_
  refine EL_nil ?_
  refine thn_n ?_
  refine EC_seq ?_
  refine EC_reg ?_
  refine EL_val p w26 rfl (r_move rfl) ?_
  refine EL_val v13 w26 rfl (r_move rfl) ?_
  refine EL_val v28 w26 rfl (r_move rfl) ?_
  obtain ⟨I29, le30, S31, H32⟩ := S27.fb0
  refine EL_lit1 (l := [(0, v28)]) w26.heap.size [v28] el_100 rfl (by decide) rfl (Nat.le_refl _) (parts1 rfl) (Eq.trans (show Instr.fill _ _ [(0, v28)] = _ from (fill_one rfl (row_cells (H32 _ S31.le)) (by kernel_rfl) fill_end)) (by kernel_rfl)) ?_
  intro v33 w34 O35 B36 k37
  have S38 : Sat w34 I29 (OwnX 22 bytesR v33 [putB [(Any.int coll), (Any.bytes b)]] :: OwnB v13 (rightB L s uWriter who) :: Suite p (rightL L s uWriter who) :: R) := OwnX.cls (xss := [[v28]]) (.cons ⟨_, rfl, (row_one (H32 _ S31.le)), H32⟩ .nil) (S31.newO B36 O35)
  obtain ⟨I39, le40, S41, H42⟩ := S38.fb1
  have oH46 := (OwnX.one S41 0 rfl (by decide))
  obtain ⟨I43, le44, S45, H46⟩ := S41.fx0 (by decide)
  refine EL_ret _ rfl Try.func74 rfl nm74 rfl (Code_c p (rightL L s uWriter who) v13 (rightB L s uWriter who) v33 [putB [(Any.int coll), (Any.bytes b)]] I43 _ _ S45 (H42.up le44) H46 (Nat.le_trans (rightL_len _ _ _ _) (by omega)) (Nat.le_trans (rightB_len _ _ _ _) (by decide)) (by have := putB_le [Any.int coll, Any.bytes b]; simp at this ⊢; omega)) ?_
  rintro _ w47 ⟨v49, rfl, S48⟩
  have q51 : signOf 77 (onceN (tCode (rightB L s uWriter who) [putB [(Any.int coll), (Any.bytes b)]].flatten) (rightL L s uWriter who)) = markB L s coll who b := by simp only [markB, markL, markT, List.flatten_cons, List.flatten_nil, List.append_nil]
  have S50 := S48.ab0 q51
  have q53 : onceL (tCode (rightB L s uWriter who) [putB [(Any.int coll), (Any.bytes b)]].flatten) (rightL L s uWriter who) = markL L s coll who b := by simp only [markB, markL, markT, List.flatten_cons, List.flatten_nil, List.append_nil]
  have S52 := Sat.ah1 (Suite p) S50 q53
  refine EL_val v49 w47 rfl (r_assign rfl) ?_
  refine EL_nil ?_
  refine thn_n ?_
  refine EC_ret ?_
  refine fin1 Try.results43 (show _ = v49 from rfl) ⟨_, rfl, ?_⟩
  exact ⟨v49, I43, (Gh.le_trans (Gh.le_trans (Gh.le_trans (Gh.le_trans le15 le23) le30) le40) le44), rfl, S52⟩

end Go.Proofs.Ytoajodjcmeijgaa
