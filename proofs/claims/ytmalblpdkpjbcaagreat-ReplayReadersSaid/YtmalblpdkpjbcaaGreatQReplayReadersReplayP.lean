import Derived.Test.YtmalblpdkpjbcaaGreatQReplayReadersReplay
import Derived.Test.YtmalblpdkpjbcaaGreatQReplayReadersPolC
import Derived.Test.YtmalblpdkpjbcaaGreatQReplayReadersDocA
import Derived.Test.YtmalblpdkpjbcaaGreatQReplayReadersChnA
import Derived.Test.YtmalblpdkpjbcaaGreatQReplayReadersRngB
set_option linter.unusedVariables false
set_option linter.unusedSimpArgs false
namespace Go.Proofs.YtmalblpdkpjbcaaGreat
open Go.RowKit Go.Ecal
structure Rpl.ok (s : Rpl) : Prop where
  seen : s.seen.length = 17
  seenN : ∀ n ∈ s.seen, 0 ≤ n ∧ n ≤ 1099511627776
  ks : KsOk s.ks
  num : (1 ≤ s.coll ∧ s.coll ≤ 1099511627776) ∧ (1 ≤ s.founder ∧ s.founder ≤ 16) ∧ (1 ≤ s.who ∧ s.who ≤ 16) ∧ (1 ≤ s.pol.founder ∧ s.pol.founder ≤ 16) ∧ 0 ≤ s.pol.epoch ∧ s.pol.epoch ≤ 16
def rplC (s : Rpl) (p sv cv vm dv rv : Value) : List Value := [p, .int .i64 s.coll, .int .i64 s.founder, .int .i64 s.who, sv, cv, .int .i64 s.pol.founder, .int .i64 s.pol.epoch, vm, dv, rv] ++ s.seen.map (Value.int .i64)
def RplP (q p : Value) (s : Rpl) : HP := .ex fun b => .ex fun sv => .ex fun cv => .ex fun vm => .ex fun dv => .ex fun rv =>
  Sep [.prop (q = ptr b ∧ s.ok ∧ cv.oneCell' = true ∧ dv.oneCell' = true ∧ rv.oneCell' = true), .fact ⟨fun I => RoB I sv s.sec ∧ RoX I vm memR s.pol.mem, fun h k => ⟨k.1.up h, k.2.up h⟩⟩,
    Blk b 115 (rplC s p sv cv vm dv rv), ChainP cv p s.ch, DocsP dv s.docs, RingP rv s.ks]
section
variable {w : World} {I : Gh} {R : List HP} {q p : Value} {s : Rpl}
theorem RplP.opn (S : Sat w I (RplP q p s :: R)) : ∃ b sv cv vm dv rv, q = ptr b ∧ s.ok ∧ cv.oneCell' = true ∧ dv.oneCell' = true ∧ rv.oneCell' = true ∧ RoB I sv s.sec ∧ RoX I vm memR s.pol.mem ∧
    Sat w I (Blk b 115 (rplC s p sv cv vm dv rv) :: ChainP cv p s.ch :: DocsP dv s.docs :: RingP rv s.ks :: R) := by
  obtain ⟨b, S⟩ := S.unex; obtain ⟨sv, S⟩ := S.unex; obtain ⟨cv, S⟩ := S.unex; obtain ⟨vm, S⟩ := S.unex; obtain ⟨dv, S⟩ := S.unex; obtain ⟨rv, S⟩ := S.unex
  obtain ⟨⟨h1, h2, h3, h4, h5⟩, S⟩ := S.split.unprop
  obtain ⟨⟨h6, h7⟩, S⟩ := S.unfact
  exact ⟨b, sv, cv, vm, dv, rv, h1, h2, h3, h4, h5, h6, h7, S⟩
theorem RplP.cls {b : Nat} {sv cv vm dv rv : Value} (h2 : s.ok) (h3 : cv.oneCell' = true) (h4 : dv.oneCell' = true) (h5 : rv.oneCell' = true) (h6 : RoB I sv s.sec) (h7 : RoX I vm memR s.pol.mem)
    (S : Sat w I (Blk b 115 (rplC s p sv cv vm dv rv) :: ChainP cv p s.ch :: DocsP dv s.docs :: RingP rv s.ks :: R)) : Sat w I (RplP (ptr b) p s :: R) :=
  Sat.toex b (Sat.toex sv (Sat.toex cv (Sat.toex vm (Sat.toex dv (Sat.toex rv (Sat.join [_, _, _, _, _, _] ((Sat.tofact (φ := ⟨fun I => RoB I sv s.sec ∧ RoX I vm memR s.pol.mem, fun h k => ⟨k.1.up h, k.2.up h⟩⟩) ⟨h6, h7⟩ S).toprop ⟨rfl, h2, h3, h4, h5⟩)))))))
theorem ChainP.oneV {c : Chn} (S : Sat w I (ChainP q p c :: R)) : q.oneCell' = true := by obtain ⟨b, _, _, rfl, _⟩ := ChainP.opn S; rfl
theorem DocsP.oneV {K : List Doc} (S : Sat w I (DocsP q K :: R)) : q.oneCell' = true := by obtain ⟨b, _, rfl, _⟩ := DocsP.opn S; rfl
theorem RingP.oneV {ks : List (List UInt8)} (S : Sat w I (RingP q ks :: R)) : q.oneCell' = true := by obtain ⟨b, _, rfl, _⟩ := RingP.opn S; rfl
theorem RingP.len {ks : List (List UInt8)} (S : Sat w I (RingP q ks :: R)) : ks.length = 17 := by obtain ⟨b, _, rfl, h, _⟩ := RingP.opn S; exact h
theorem rplC_len {sv cv vm dv rv : Value} (h : s.ok) : (rplC s p sv cv vm dv rv).length = 28 := by simp [rplC, h.seen]
theorem rplC_seen {sv cv vm dv rv : Value} {n : Int} (h : s.ok) (hn : 0 ≤ n ∧ n ≤ 16) : (rplC s p sv cv vm dv rv)[11 + (n : Int).toNat]? = some (.int .i64 (seenAt s.seen n)) := by
  rw [rplC, List.getElem?_append_right (by simp), seenAt, if_pos hn]
  have hl : n.toNat < s.seen.length := by rw [h.seen]; omega
  simp [List.getD, List.getElem?_eq_getElem hl]
theorem seen_rng {n : Int} (h : s.ok) : 0 ≤ seenAt s.seen n ∧ seenAt s.seen n ≤ 1099511627776 := by
  unfold seenAt; split
  · rename_i hn
    have hl : n.toNat < s.seen.length := by rw [h.seen]; omega
    simp only [List.getD, List.getElem?_eq_getElem hl, Option.getD_some]
    exact h.seenN _ (List.getElem_mem _)
  · omega
theorem rplC_set {sv cv vm dv rv : Value} {e : Entry} : (rplC s p sv cv vm dv rv).set (11 + (e.writer : Int).toNat) (.int .i64 e.seq) = rplC (s.sees e) p sv cv vm dv rv := by
  rw [rplC, List.set_append_right _ _ (by simp)]
  simp [rplC, Rpl.sees, List.map_set]
theorem Rpl.ok.sees {e : Entry} (h : s.ok) (hs : 0 ≤ e.seq ∧ e.seq ≤ 1099511627776) : (s.sees e).ok := by
  refine ⟨by simpa [Rpl.sees] using h.seen, fun n hn => ?_, h.ks, h.num⟩
  rcases List.mem_or_eq_of_mem_set hn with hn | rfl
  · exact h.seenN n hn
  · exact hs
end
end Go.Proofs.YtmalblpdkpjbcaaGreat
