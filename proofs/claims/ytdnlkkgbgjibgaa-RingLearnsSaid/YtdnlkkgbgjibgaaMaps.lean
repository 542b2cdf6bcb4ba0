/- Maps whose keys are numbers or strings. -/
import Derived.Test.YtdnlkkgbgjibgaaOps
import Derived.Maps.Keyed
set_option linter.unusedVariables false
set_option linter.unusedSimpArgs false
set_option linter.unusedSectionVars false
namespace Go.Ecal
open Go.RowKit Go.Maps
section
variable {P : Program} {N : Nat} {Q : Exit → Env → World → Prop} {E : Env} {w w' : World} {ops : Array Oper} {L : List Oper}
variable {d : Nat} {op : Op} {ty : TypeId} {pos : String} {aft : Array Edge} {dst : Option Tmp} {gd : Option (Nat × Bool)}
variable {t t2 T e k : TypeId} {x y : Operand} {v : Value} {b sz : Nat} {κ α : Type} [DecidableEq κ]
/-- The entries of a map. -/
def entM (enc : κ → Value) (dec : α → Value) (K : List (κ × α)) : List (Value × Value) := K.map fun p => (enc p.1, dec p.2)
/-- What stands at a key. -/
def lkM : List (κ × α) → κ → Option α
  | [], _ => none
  | (a, x) :: r, k => if a = k then some x else lkM r k
/-- Each key stands once. -/
abbrev Once (K : List (κ × α)) : Prop := K.Pairwise fun p q => p.1 ≠ q.1
theorem lkM_none {K : List (κ × α)} {k : κ} : lkM K k = none ↔ ∀ p ∈ K, p.1 ≠ k := by
  induction K with
  | nil => simp [lkM]
  | cons p r ih =>
    obtain ⟨a, x⟩ := p
    by_cases h : a = k
    · simp [lkM, h]
    · simp [lkM, h, ih]
theorem lkM_get {K : List (κ × α)} (h1 : Once K) {k : κ} {j : Nat} {x : α} (hj : K[j]? = some (k, x)) : lkM K k = some x := by
  induction K generalizing j with
  | nil => simp at hj
  | cons p r ih =>
    obtain ⟨a, y⟩ := p
    obtain ⟨h2, h3⟩ := List.pairwise_cons.1 h1
    cases j with
    | zero => simp at hj; obtain ⟨rfl, rfl⟩ := hj; simp [lkM]
    | succ j =>
      have hj2 : r[j]? = some (k, x) := by simpa using hj
      have : a ≠ k := h2 (k, x) (List.mem_of_getElem? hj2)
      simp [lkM, this, ih h3 hj2]
theorem lkM_app {K : List (κ × α)} {k : κ} {x : α} (h : lkM K k = none) (m : κ) : lkM (K ++ [(k, x)]) m = if m = k then some x else lkM K m := by
  induction K with
  | nil => simp only [List.nil_append, lkM, eq_comm]
  | cons p r ih =>
    obtain ⟨a, y⟩ := p
    have h1 : a ≠ k := fun e => by simp [lkM, e] at h
    have h2 : lkM r k = none := by simpa [lkM, h1] using h
    by_cases h3 : a = m
    · subst h3; simp [lkM, h1]
    · simp [lkM, h3, ih h2]
theorem Once.app {K : List (κ × α)} {k : κ} {x : α} (h1 : Once K) (h : lkM K k = none) : Once (K ++ [(k, x)]) := by
  refine List.pairwise_append.2 ⟨h1, List.pairwise_singleton _ _, fun p hp q hq => ?_⟩
  rw [List.mem_singleton] at hq; subst hq
  exact lkM_none.1 h p hp
theorem entM_app (enc : κ → Value) (dec : α → Value) (K : List (κ × α)) (k : κ) (x : α) : entM enc dec K ++ [(enc k, dec x)] = entM enc dec (K ++ [(k, x)]) := by simp [entM]
theorem entM_kv {enc : κ → Value} {dec : α → Value} {K : List (κ × α)} (h : ∀ p ∈ K, KV P k (enc p.1)) : ∀ p ∈ entM enc dec K, KV P k p.1 := by
  intro p hp; obtain ⟨q, hq, rfl⟩ := List.mem_map.1 hp; exact h q hq
theorem mp_below {o : Obj} (h : w.heap[b]? = some o) (hb : Below w.heap.size w w') : w'.heap[b]? = some o := hp_below hb b o h
/-- v, ok := m[k] -/
theorem r_lookK2 {enc : κ → Value} {dec : α → Value} {K : List (κ × α)} {kk : κ} {arr : Array MapEntry} {clock : Nat} {z : α} (Y : Keyed P k) (ht : P.underlying t = some (.map k e)) (hz : (P.info? e).bind (·.zero) = some (dec z)) (hx : ev E x = .map (some b)) (hy : ev E y = enc kk) (hb : w.heap[b]? = some (.map arr clock))
    (he : arr.toList.map (fun e => (e.key, e.val)) = entM enc dec K) (hK : Once K) (hk : KV P k (enc kk)) (hall : ∀ p ∈ K, KV P k (enc p.1)) (hinj : ∀ p ∈ K, enc p.1 = enc kk → p.1 = kk) :
    Gives P E w ⟨dst, .lookup t x y true, ty, pos, aft, gd⟩ (.tuple #[dec ((lkM K kk).getD z), .bool (lkM K kk).isSome]) w ∧ Gives P E w ⟨dst, .lookup t x y false, ty, pos, aft, gd⟩ (dec ((lkM K kk).getD z)) w := by
  obtain ⟨lk, hlk⟩ := hk
  obtain ⟨i, hi, hz'⟩ := Option.bind_eq_some_iff.1 hz
  have hall' : ∀ e ∈ arr.toList, ∃ l, keyOf P k e.key = some l := fun en hen => by
    have : (en.key, en.val) ∈ entM enc dec K := by rw [← he]; exact List.mem_map.2 ⟨en, hen, rfl⟩
    obtain ⟨q, hq, e1⟩ := List.mem_map.1 this
    have := hall q hq; rw [show enc q.1 = en.key from congrArg Prod.fst e1] at this; exact this
  have hg := MapKept.run_getObj_map (P := P) hb
  simp only [Gives, execOp, hx, hy]
  rcases Y.find w hlk arr.toList hall' with ⟨h1, h2⟩ | ⟨j, e0, h1, h2, h3⟩
  · have h4 : lkM K kk = none := lkM_none.2 fun p hp h => by
      have : (enc p.1, dec p.2) ∈ arr.toList.map (fun e => (e.key, e.val)) := by rw [he]; exact List.mem_map.2 ⟨p, hp, rfl⟩
      obtain ⟨en, hen, e1⟩ := List.mem_map.1 this
      exact h2 en hen (by rw [← h]; exact congrArg Prod.fst e1)
    simp [Instr.lookup, run_underlying ht, hg, Y.check w _ hlk, h1, zeroValue, typeInfo, hi, hz', h4]
  · have h4 : (entM enc dec K)[j]? = some (enc kk, e0.val) := by rw [← he, List.getElem?_map, h2]; simp [h3]
    rw [entM, List.getElem?_map] at h4
    obtain ⟨q, hq, e1⟩ := Option.map_eq_some_iff.1 h4
    have e2 : enc q.1 = enc kk := congrArg Prod.fst e1
    have e3 : dec q.2 = e0.val := congrArg Prod.snd e1
    have e4 := hinj q (List.mem_of_getElem? hq) e2
    have h5 : lkM K kk = some q.2 := lkM_get hK (j := j) (by rw [hq, ← e4])
    simp [Instr.lookup, run_underlying ht, hg, Y.check w _ hlk, h1, h5, e3]
/-- v, ok := m[k]; o: what stands there -/
theorem r_lookK {enc : κ → Value} {dec : α → Value} {K : List (κ × α)} {kk : κ} {arr : Array MapEntry} {clock : Nat} {z : α} {o : Option α} {r : Value} (Y : Keyed P k) (ht : P.underlying t = some (.map k e)) (hz : (P.info? e).bind (·.zero) = some (dec z)) (hx : ev E x = .map (some b)) (hy : ev E y = enc kk) (hb : w.heap[b]? = some (.map arr clock))
    (he : arr.toList.map (fun e => (e.key, e.val)) = entM enc dec K) (hK : Once K) (hk : KV P k (enc kk)) (hall : ∀ p ∈ K, KV P k (enc p.1)) (hinj : ∀ p ∈ K, enc p.1 = enc kk → p.1 = kk) (ho : lkM K kk = o) (hr : .tuple #[dec (o.getD z), .bool o.isSome] = r) :
    Gives P E w ⟨dst, .lookup t x y true, ty, pos, aft, gd⟩ r w := by
  subst ho hr; exact (r_lookK2 Y ht hz hx hy hb he hK hk hall hinj).1
theorem r_lookK1 {enc : κ → Value} {dec : α → Value} {K : List (κ × α)} {kk : κ} {arr : Array MapEntry} {clock : Nat} {z a : α} (Y : Keyed P k) (ht : P.underlying t = some (.map k e)) (hz : (P.info? e).bind (·.zero) = some (dec z)) (hx : ev E x = .map (some b)) (hy : ev E y = enc kk) (hb : w.heap[b]? = some (.map arr clock))
    (he : arr.toList.map (fun e => (e.key, e.val)) = entM enc dec K) (hK : Once K) (hk : KV P k (enc kk)) (hall : ∀ p ∈ K, KV P k (enc p.1)) (hinj : ∀ p ∈ K, enc p.1 = enc kk → p.1 = kk) (ho : (lkM K kk).getD z = a) :
    Gives P E w ⟨dst, .lookup t x y false, ty, pos, aft, gd⟩ (dec a) w := by
  subst ho; exact (r_lookK2 Y ht hz hx hy hb he hK hk hall hinj).2
/-- m[k] = v, k new -/
theorem EL_mapNewK {enc : κ → Value} {dec : α → Value} {K : List (κ × α)} {kk : κ} {u : α} {arr : Array MapEntry} {clock : Nat} {z : Operand} (Y : Keyed P k) (ht : P.underlying t = some (.map k e)) (hx : ev E x = .map (some b)) (hy : ev E y = enc kk) (hz : ev E z = dec u) (hb : w.heap[b]? = some (.map arr clock))
    (he : arr.toList.map (fun e => (e.key, e.val)) = entM enc dec K) (hk : KV P k (enc kk)) (hall : ∀ p ∈ K, KV P k (enc p.1)) (hinj : ∀ p ∈ K, enc p.1 = enc kk → p.1 = kk) (hno : lkM K kk = none)
    (h : ∀ w' arr' clock', w'.heap[b]? = some (.map arr' clock') → arr'.toList.map (fun e => (e.key, e.val)) = entM enc dec (K ++ [(kk, u)]) → w.grownBy w' (some b) → EL P N ops Q L E w') :
    EL P N ops Q (⟨none, .mapUpdate t x y z, ty, pos, aft, none⟩ :: L) E w := by
  obtain ⟨lk, hlk⟩ := hk
  have hall' : ∀ e ∈ arr.toList, ∃ l, keyOf P k e.key = some l := fun en hen => by
    have : (en.key, en.val) ∈ entM enc dec K := by rw [← he]; exact List.mem_map.2 ⟨en, hen, rfl⟩
    obtain ⟨q, hq, e1⟩ := List.mem_map.1 this
    have := hall q hq; rw [show enc q.1 = en.key from congrArg Prod.fst e1] at this; exact this
  have hg := MapKept.run_getObj_map (P := P) hb
  have hs := MapKept.run_setObj_map (P := P) (.map (arr.push ⟨enc kk, dec u, clock⟩) (clock + 1)) hb
  rcases Y.find w hlk arr.toList hall' with ⟨h1, h2⟩ | ⟨j, e0, h1, h2, h3⟩
  · refine EL_do { w with heap := w.heap.setIfInBounds b (.map (arr.push ⟨enc kk, dec u, clock⟩) (clock + 1)) } ?_ (h _ (arr.push ⟨enc kk, dec u, clock⟩) (clock + 1) (MapKept.heap_set hb).1 (by simp [he, entM]) ⟨rfl, rfl, rfl, by simp, fun q _ hq => (MapKept.heap_set hb).2 q (fun hh => hq (by rw [hh]))⟩)
    simp only [Gives, execOp, hx, hy, hz]
    simp [Instr.mapUpdate, run_underlying ht, hg, Y.check w _ hlk, h1, hs]
  · exfalso
    have h4 : (entM enc dec K)[j]? = some (enc kk, e0.val) := by rw [← he, List.getElem?_map, h2]; simp [h3]
    rw [entM, List.getElem?_map] at h4
    obtain ⟨q, hq, e1⟩ := Option.map_eq_some_iff.1 h4
    exact lkM_none.1 hno q (List.mem_of_getElem? hq) (hinj q (List.mem_of_getElem? hq) (congrArg Prod.fst e1))
end
/-! ### Numbers as keys, bytes at them -/
abbrev encI (n : Int) : Value := .int .i64 n
abbrev decS (s : List UInt8) : Value := .string (str s)
theorem kv_int {P : Program} {k : TypeId} {n : Int} (hk : P.underlying k = some (.int .i64)) (h : -9223372036854775808 ≤ n ∧ n ≤ 9223372036854775807) : KV P k (encI n) :=
  ⟨_, keyOf_int_mk hk (by simp [Lit.wf, IntKind.wrap, IntKind.bits, IntKind.signed, IntKind.min, IntKind.max]; omega)⟩
theorem encI_inj {m n : Int} (h : encI m = encI n) : m = n := by injection h
abbrev IntKeys (K : List (Int × List UInt8)) : Prop := ∀ p ∈ K, -9223372036854775808 ≤ p.1 ∧ p.1 ≤ 9223372036854775807
end Go.Ecal
