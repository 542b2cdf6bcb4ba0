import Derived.Test.YtamjafnjohiccaaOpen
import Derived.Test.YtamjafnjohiccaaBase
set_option linter.unusedVariables false
set_option linter.unusedSimpArgs false
namespace Go.Proofs.Ytamjafnjohiccaa
open Go.RowKit Go.Ecal

structure LOp where
  kind : Int
  a : List UInt8
  b : List UInt8
  c : List UInt8
  text : List UInt8
  ref : Int
  box : Int
def opR : Rep LOp := ⟨7, fun I cs a => ∃ v1 v2 v3 v4, cs = [.int .i64 a.kind, v1, v2, v3, v4, .int .i64 a.ref, .int .i64 a.box] ∧ (-9223372036854775808 ≤ a.kind ∧ a.kind ≤ 9223372036854775807) ∧ (v1.oneCell' = true ∧ RoB I v1 a.a) ∧ (v2.oneCell' = true ∧ RoB I v2 a.b) ∧ (v3.oneCell' = true ∧ RoB I v3 a.c) ∧ (v4.oneCell' = true ∧ RoB I v4 a.text) ∧ (-9223372036854775808 ≤ a.ref ∧ a.ref ≤ 9223372036854775807) ∧ (-9223372036854775808 ≤ a.box ∧ a.box ≤ 9223372036854775807), fun k h => by obtain ⟨v1, v2, v3, v4, rfl, h0, ⟨o1, h1⟩, ⟨o2, h2⟩, ⟨o3, h3⟩, ⟨o4, h4⟩, h5, h6⟩ := h; exact ⟨v1, v2, v3, v4, rfl, h0, ⟨o1, h1.up k⟩, ⟨o2, h2.up k⟩, ⟨o3, h3.up k⟩, ⟨o4, h4.up k⟩, h5, h6⟩,
  fun h => by obtain ⟨v1, v2, v3, v4, rfl, h0, ⟨o1, h1⟩, ⟨o2, h2⟩, ⟨o3, h3⟩, ⟨o4, h4⟩, h5, h6⟩ := h; rfl, fun h u hu => by
    obtain ⟨v1, v2, v3, v4, rfl, h0, ⟨o1, h1⟩, ⟨o2, h2⟩, ⟨o3, h3⟩, ⟨o4, h4⟩, h5, h6⟩ := h
    simp only [List.mem_cons, List.not_mem_nil, or_false] at hu
    rcases hu with rfl | rfl | rfl | rfl | rfl | rfl | rfl <;> first | rfl | assumption⟩
set_option maxRecDepth 100000 in
theorem opn_49 : Opn Try.prog 49 opR := fun enc w sp hd fuel cs x h => by
  obtain ⟨xs, n, _, _, hl, hxl, hf⟩ := DataW.trod_struct Try.underlying49 h
  have hlen : cs.length = 7 := hl.trans (by kernel_rfl)
  obtain ⟨c0, t0, rfl, l0⟩ := cons_of_len hlen
  obtain ⟨c1, t1, rfl, l1⟩ := cons_of_len l0
  obtain ⟨c2, t2, rfl, l2⟩ := cons_of_len l1
  obtain ⟨c3, t3, rfl, l3⟩ := cons_of_len l2
  obtain ⟨c4, t4, rfl, l4⟩ := cons_of_len l3
  obtain ⟨c5, t5, rfl, l5⟩ := cons_of_len l4
  obtain ⟨c6, t6, rfl, l6⟩ := cons_of_len l5
  obtain rfl := List.eq_nil_of_length_eq_zero l6
  have e0 : DataW.trod enc Try.prog w 0 sp hd n 3 [c0] = xs[0]? := Opn.part hf rfl rfl rfl (k := 1) (by kernel_rfl) rfl
  obtain ⟨a0, h0⟩ := Opn.field (Opn.int Try.underlying3) (by rw [hxl]; decide) e0
  have e1 : DataW.trod enc Try.prog w 0 sp hd n 22 [c1] = xs[1]? := Opn.part hf rfl rfl rfl (k := 1) (by kernel_rfl) rfl
  obtain ⟨a1, h1⟩ := Opn.field (Opn.bytes Try.underlying22 Try.underlying5 (by kernel_rfl)) (by rw [hxl]; decide) e1
  have e2 : DataW.trod enc Try.prog w 0 sp hd n 22 [c2] = xs[2]? := Opn.part hf rfl rfl rfl (k := 1) (by kernel_rfl) rfl
  obtain ⟨a2, h2⟩ := Opn.field (Opn.bytes Try.underlying22 Try.underlying5 (by kernel_rfl)) (by rw [hxl]; decide) e2
  have e3 : DataW.trod enc Try.prog w 0 sp hd n 22 [c3] = xs[3]? := Opn.part hf rfl rfl rfl (k := 1) (by kernel_rfl) rfl
  obtain ⟨a3, h3⟩ := Opn.field (Opn.bytes Try.underlying22 Try.underlying5 (by kernel_rfl)) (by rw [hxl]; decide) e3
  have e4 : DataW.trod enc Try.prog w 0 sp hd n 22 [c4] = xs[4]? := Opn.part hf rfl rfl rfl (k := 1) (by kernel_rfl) rfl
  obtain ⟨a4, h4⟩ := Opn.field (Opn.bytes Try.underlying22 Try.underlying5 (by kernel_rfl)) (by rw [hxl]; decide) e4
  have e5 : DataW.trod enc Try.prog w 0 sp hd n 3 [c5] = xs[5]? := Opn.part hf rfl rfl rfl (k := 1) (by kernel_rfl) rfl
  obtain ⟨a5, h5⟩ := Opn.field (Opn.int Try.underlying3) (by rw [hxl]; decide) e5
  have e6 : DataW.trod enc Try.prog w 0 sp hd n 3 [c6] = xs[6]? := Opn.part hf rfl rfl rfl (k := 1) (by kernel_rfl) rfl
  obtain ⟨a6, h6⟩ := Opn.field (Opn.int Try.underlying3) (by rw [hxl]; decide) e6
  obtain ⟨q, rh0⟩ := h0; simp only [List.cons.injEq, and_true] at q; subst q
  obtain ⟨vh1, q, oh1, rh1⟩ := h1; simp only [List.cons.injEq, and_true] at q; subst q
  obtain ⟨vh2, q, oh2, rh2⟩ := h2; simp only [List.cons.injEq, and_true] at q; subst q
  obtain ⟨vh3, q, oh3, rh3⟩ := h3; simp only [List.cons.injEq, and_true] at q; subst q
  obtain ⟨vh4, q, oh4, rh4⟩ := h4; simp only [List.cons.injEq, and_true] at q; subst q
  obtain ⟨q, rh5⟩ := h5; simp only [List.cons.injEq, and_true] at q; subst q
  obtain ⟨q, rh6⟩ := h6; simp only [List.cons.injEq, and_true] at q; subst q
  exact ⟨⟨a0, a1, a2, a3, a4, a5, a6⟩, ⟨_, _, _, _, rfl, rh0, ⟨oh1, rh1⟩, ⟨oh2, rh2⟩, ⟨oh3, rh3⟩, ⟨oh4, rh4⟩, rh5, rh6⟩⟩
def LOp.ok (o : LOp) : Bool := decide (o.a.length ≤ 100) && decide (o.b.length ≤ 100) && decide (o.c.length ≤ 100) && decide (o.text.length ≤ 200)
theorem LOp.ok_iff {o : LOp} : o.ok = true ↔ o.a.length ≤ 100 ∧ o.b.length ≤ 100 ∧ o.c.length ≤ 100 ∧ o.text.length ≤ 200 := by simp [LOp.ok, and_assoc]
def smallS (ops : List LOp) (most : Int) : Bool := ops.all LOp.ok && decide ((ops.length : Int) ≤ most)
def OkTo (ops : List LOp) (j : Nat) : Prop := ∀ (i : Nat) (o : LOp), i < j → ops[i]? = some o → o.ok = true
theorem OkTo.next {ops : List LOp} {j : Nat} {a : LOp} (h : OkTo ops j) (ha : ops[j]? = some a) (hn : a.ok = true) : OkTo ops (j + 1) := by
  intro i u hi hu
  by_cases h1 : i < j
  · exact h i u h1 hu
  · have : i = j := by omega
    subst this; rw [ha] at hu; cases hu; exact hn
theorem OkTo.all {ops : List LOp} (h : OkTo ops ops.length) : ops.all LOp.ok = true := by
  rw [List.all_eq_true]; intro o ho
  obtain ⟨i, hi, rfl⟩ := List.getElem_of_mem ho
  exact h i _ hi (List.getElem?_eq_getElem hi)
theorem small_bad {ops : List LOp} {j : Nat} {a : LOp} {m : Int} (ha : ops[j]? = some a) (hn : a.ok = false) : smallS ops m = false := by
  have : ops.all LOp.ok = false := by
    rw [← Bool.not_eq_true, List.all_eq_true]; intro h; rw [h a (List.mem_of_getElem? ha)] at hn; cases hn
  simp [smallS, this]

end Go.Proofs.Ytamjafnjohiccaa
