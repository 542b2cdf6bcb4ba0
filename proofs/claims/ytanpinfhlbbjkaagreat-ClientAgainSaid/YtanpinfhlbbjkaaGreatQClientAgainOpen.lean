import Derived.Deep.Slices
import Derived.Deep.SlicePairs
import Derived.Test.YtanpinfhlbbjkaaGreatQClientAgainRep
set_option linter.unusedVariables false
set_option linter.unusedSimpArgs false
namespace Go.Ecal
open Go.RowKit Go.ChangeShapes Go.WideShapes
/-- Cells of type t that were handed in are some thing's. -/
def Opn {α : Type} (P : Program) (t : TypeId) (τ : Rep α) : Prop :=
  ∀ {H : Type} (enc : TypeId × Value → H) (w : World) (spare : Nat → Bool) (held : Bool) (fuel : Nat) (cs : List Value) (x : DataW H × List MemPlace), DataW.trod enc P w 0 spare held fuel t cs = some x → ∃ a, τ.r (gh w) cs a
section
variable {P : Program} {t e : TypeId} {α : Type} {τ : Rep α}
theorem Opn.int (ht : P.underlying t = some (.int .i64)) : Opn P t intR := fun enc w sp hd fuel cs x h => by
  obtain ⟨n, rfl, _, hw⟩ := DataW.trod_int ht h
  exact ⟨n, rfl, rng_i64 hw⟩
theorem Opn.bool (ht : P.underlying t = some .bool) : Opn P t boolR := fun enc w sp hd fuel cs x h => by
  obtain ⟨b, rfl, _⟩ := DataW.trod_bool ht h
  exact ⟨b, rfl⟩
theorem Opn.str (ht : P.underlying t = some .string) : Opn P t strR := fun enc w sp hd fuel cs x h => by
  obtain ⟨s, rfl, _, hs⟩ := DataW.trod_string ht h
  exact ⟨s.data.toList, by cases s; rfl, by have e : s.data.toList.length = s.size := Array.length_toList; have : s.size ≤ 9223372036854775807 := hs; omega⟩
theorem Opn.bytes (ht : P.underlying t = some (.slice e)) (he : P.underlying e = some (.int .u8)) (hc : P.cellsOf e = 1) : Opn P t bytesR := fun enc w sp hd fuel cs x h => by
  rcases open_ints ht he hc h with ⟨rfl, _⟩ | ⟨a, l, c, zs, rfl, _, hl, hm, hz, _, hcell, hwz⟩
  · exact ⟨[], _, rfl, rfl, Ro.nil⟩
  · obtain ⟨b, hb⟩ : ∃ b, Bs w (.slice (some a) l c) b := by
      refine ⟨(ofInts zs).take l, some a, c, ?_, ?_, by simpa [maxLen] using hm, (fun h => by cases h), fun hp => ?_⟩
      · have : l ≤ zs.length := by rw [hz]; split <;> omega
        have : ((ofInts zs).take l).length = l := by simp [ofInts]; omega
        rw [List.length_map, this]
      · have : l ≤ zs.length := by rw [hz]; split <;> omega
        simp [ofInts]; omega
      · have hle : l ≤ zs.length := by rw [hz]; split <;> omega
        have hlen : ((ofInts zs).take l).length = l := by simp [ofInts]; omega
        rw [List.length_map, hlen] at hp
        have h0 := hcell 0 (by omega)
        have hs : a.spot = none := World.cell?_spot (by simpa [Addr.add] using h0)
        obtain ⟨ab, ao, av⟩ := a
        simp only at hs
        subst hs
        refine ⟨ab, ao, rfl, fun j hj => ?_⟩
        rw [List.length_map, hlen] at hj
        have := hcell j (by omega)
        rw [Addr.add_mid] at this
        rw [this, ← ofInts_get hwz j (by omega), List.map_take, List.getElem?_take, if_pos hj]
    exact ⟨b, _, rfl, rfl, Row.ro hb⟩
theorem Opn.list (ht : P.underlying t = some (.slice e)) (hc : P.cellsOf e = τ.sz) (hz : 0 < τ.sz) (ho : Opn P e τ) : Opn P t (listR τ) := fun enc w sp hd fuel cs x h => by
  rcases Go.Deep.open_slice ht h with ⟨rfl, _⟩ | ⟨a, len, cap, m, n, D, Pl, rfl, _, hl, hm, hmm, rfl, hx⟩
  · exact ⟨[], _, rfl, rfl, RoX.nil⟩
  have hlm : len ≤ m := by rw [hmm]; split <;> omega
  by_cases h0 : len = 0
  · subst h0
    refine ⟨[], _, rfl, rfl, [], fun w' hw => ⟨some a, cap, rfl, hl, by simpa [maxLen] using hm, (fun h => by cases h), fun h => absurd h (by simp)⟩, .nil⟩
  have each : ∀ i, i < len → ∃ q : List Value, ∃ b : α, w.cells? 0 (a.add (i * τ.sz)) τ.sz = some q ∧ τ.r (gh w) q b := fun i hi => by
    obtain ⟨cs', h1, h2⟩ := hx i (by omega)
    obtain ⟨b, hb⟩ := ho enc w sp hd n cs' _ h2
    exact ⟨cs', b, by rw [← hc]; exact h1, hb⟩
  obtain ⟨q, hq⟩ := Go.Deep.choose_lt (p := fun i (q : List Value) => ∃ b : α, w.cells? 0 (a.add (i * τ.sz)) τ.sz = some q ∧ τ.r (gh w) q b) each
  have hne : Nonempty α := let ⟨b, _⟩ := hq 0 (by omega); ⟨b⟩
  obtain ⟨f, hf⟩ := (haveI : Inhabited α := Classical.inhabited_of_nonempty hne; Go.Deep.choose_lt (p := fun i (b : α) => w.cells? 0 (a.add (i * τ.sz)) τ.sz = some (q i) ∧ τ.r (gh w) (q i) b) hq)
  have hs : a.spot = none := by
    obtain ⟨_, h2, h3⟩ := World.cells?_some (hf 0 (by omega)).1
    have h4 := h3 0 hz
    rw [List.getElem?_eq_getElem (by rw [h2]; exact hz)] at h4
    exact World.cell?_spot (by simpa [Addr.add] using h4)
  obtain ⟨ab, ao, av⟩ := a
  simp only at hs
  subst hs
  refine ⟨(List.range len).map f, _, rfl, rfl, (List.range len).map q, fun w' hw => ?_, ?_⟩
  · have hrow : WRow w (.slice (some ⟨ab, ao, none⟩) len cap) τ.sz ((List.range len).map q) := by
      refine ⟨_, cap, by simp, by simpa using hl, by simpa [maxLen] using hm, (fun h => by cases h), fun _ => ⟨ab, ao, rfl, fun j cs hj i u hu => ?_⟩⟩
      have hjl : j < len := by have := (List.getElem?_eq_some_iff.1 hj).1; simpa using this
      rw [List.getElem?_map, List.getElem?_range hjl] at hj
      simp only [Option.map_some, Option.some.injEq] at hj
      subst hj
      obtain ⟨_, h2, h3⟩ := World.cells?_some (hf j hjl).1
      have hi : i < τ.sz := by rw [← h2]; exact (List.getElem?_eq_some_iff.1 hu).1
      have := h3 i hi
      rw [Addr.add_mid, Addr.add_mid] at this
      rw [this]; exact hu
    exact hrow.below hw.1
  · have : ∀ l : List Nat, (∀ i ∈ l, i < len) → All2 (τ.r (gh w)) (l.map q) (l.map f) := by
      intro l
      induction l with
      | nil => intro _; exact .nil
      | cons i r ih => intro hl; exact .cons (hf i (hl i (by simp))).2 (ih fun j hj => hl j (by simp [hj]))
    exact this _ fun i hi => List.mem_range.1 hi
/-- A struct's field. -/
theorem Opn.field {H : Type} {enc : TypeId × Value → H} {w : World} {spare : Nat → Bool} {held : Bool} {n : Nat} {f : TypeId} {cs : List Value} {xs : List (DataW H × List MemPlace)} {i : Nat} (ho : Opn P f τ) (hi : i < xs.length) (h : DataW.trod enc P w 0 spare held n f cs = xs[i]?) : ∃ a, τ.r (gh w) cs a := by
  rw [List.getElem?_eq_getElem hi] at h
  exact ho enc w spare held n cs _ h
end
theorem cons_of_len {α : Type} {l : List α} {n : Nat} (h : l.length = n + 1) : ∃ a t, l = a :: t ∧ t.length = n := by
  cases l with
  | nil => simp at h
  | cons a t => exact ⟨a, t, rfl, by simpa using h⟩
theorem Opn.part {P : Program} {H : Type} {enc : TypeId × Value → H} {w : World} {spare : Nat → Bool} {held : Bool} {n i T off k : Nat} {fs : Array Field} {f : Field} {cs ds : List Value} {xs : List (DataW H × List MemPlace)}
    (hf : ∀ (i : Nat) (f : Field), fs[i]? = some f → DataW.trod enc P w 0 spare held n f.type ((cs.drop f.offset).take (P.cellsOf f.type)) = xs[i]?) (hi : fs[i]? = some f) (ht : f.type = T) (ho : f.offset = off) (hc : P.cellsOf T = k) (hcs : (cs.drop off).take k = ds) : DataW.trod enc P w 0 spare held n T ds = xs[i]? := by
  have := hf i f hi
  rw [ht, ho, hc, hcs] at this
  exact this
end Go.Ecal
