/-
  Any steps from any tally lead where the counts' sums do, one after the other, or are refused at the first that leads out.
  Its conditions: none: whatever the input, in whatever memory.
-/
import Derived.Test.YtieaebbnmebbfaaRows
import Derived.Test.YtieaebbnmebbfaaWalksD
import Derived.ProofKit
import Derived.Deep.SlicePairs
import Derived.OpenShut
import Derived.ShutString
import Derived.ChangeOld
set_option linter.unusedVariables false
set_option linter.unusedSimpArgs false
namespace Go.Proofs.Ytieaebbnmebbfaa.tallySums
open Go.ChangeShapes Go.WideShapes Go.ChangeAt Go.RowKit Go.Ecal
open Go.ChangeMaps (open_string shut_string)
def rng (p : Int × Int) : Prop := (-9223372036854775808 ≤ p.1 ∧ p.1 ≤ 9223372036854775807) ∧ (-9223372036854775808 ≤ p.2 ∧ p.2 ≤ 9223372036854775807)
/-- A slice of pairs reads as a list. -/
def PRow (w : World) (v : Value) (l : List (Int × Int)) : Prop :=
  ∃ A c, v = .slice A l.length c ∧ l.length ≤ c ∧ c ≤ 9223372036854775807 ∧ (0 < l.length → ∃ b o, A = some ⟨b, o, none⟩ ∧ ∀ (j : Nat) (p : Int × Int), l[j]? = some p → w.cell? ⟨b, o + j * 2, none⟩ = some (.int .i64 p.1) ∧ w.cell? ⟨b, o + j * 2 + 1, none⟩ = some (.int .i64 p.2))
theorem PRow.below {w w' : World} {v : Value} {l : List (Int × Int)} (h : PRow w v l) (hb : Below w.heap.size w w') : PRow w' v l := by
  obtain ⟨A, c, hv, h1, h2, h4⟩ := h
  refine ⟨A, c, hv, h1, h2, fun hp => ?_⟩
  obtain ⟨b, o, ha, hc⟩ := h4 hp
  refine ⟨b, o, ha, fun j p hj => ?_⟩
  obtain ⟨e1, e2⟩ := hc j p hj
  rw [hb.cell (World.block_lt_of_cell? w _ e1), hb.cell (World.block_lt_of_cell? w _ e2)]
  exact ⟨e1, e2⟩
def atP (v : Value) (j : Nat) : Addr := match v with | .slice (some a) _ _ => ⟨a.block, a.off + j * 2, none⟩ | _ => default
section
variable {P : Program} {E : Env} {w : World} {dst : Option Tmp} {ty t e : TypeId} {pos : String} {aft : Array Edge} {gd : Option (Nat × Bool)} {x y : Operand} {v : Value} {l : List (Int × Int)}
theorem r_lenP (hx : ev E x = v) (h : PRow w v l) (ht : P.underlying t = some (.slice e)) : Gives P E w ⟨dst, .call { callee := .builtin .len, args := #[x], argTypes := #[t] }, ty, pos, aft, gd⟩ (.int .i64 (l.length : Int)) w := by
  obtain ⟨A, c, rfl, h1, h2, _⟩ := h
  refine run_enterBuiltin .len #[x] #[t] _ _ (Builtin.len_ #[t] ty #[.slice A l.length c]) (fun c => by simp [builtin, hx]) ?_
  simp [Builtin.len_, run_underlying ht, goInt]
theorem r_indexP {k : IntKind} {i : Int} (hx : ev E x = v) (h : PRow w v l) (hy : ev E y = .int k i) (h0 : 0 ≤ i) (h1 : i < l.length) (ht : P.underlying t = some (.slice e)) (hs : (P.info? e).map (·.size) = some 2) :
    Gives P E w ⟨dst, .indexAddr t x y, ty, pos, aft, gd⟩ (.pointer (some (atP v i.toNat))) w := by
  obtain ⟨A, c, rfl, _, _, h4⟩ := h
  obtain ⟨b, o, rfl, hc⟩ := h4 (by omega)
  obtain ⟨inf, hi, hsz⟩ := Option.map_eq_some_iff.1 hs
  simp only [Gives, execOp, hx, hy]
  simp [Instr.indexAt, asIntOf, run_underlying ht, h0, h1, sizeOf, typeInfo, hi, hsz, atP, Addr.add]
theorem r_loadP {j : Nat} {p : Int × Int} {fs : Array Field} (hx : ev E x = .pointer (some (atP v j))) (h : PRow w v l) (hp : l[j]? = some p) (ht : P.underlying t = some (.struct fs)) (hs : (P.info? t).map (·.size) = some 2) :
    Gives P E w ⟨dst, .load t x, ty, pos, aft, gd⟩ (.agg (([p.1, p.2] : List Int).map (Value.int .i64)).toArray) w := by
  have hlt := (List.getElem?_eq_some_iff.1 hp).1
  obtain ⟨A, c, rfl, _, _, h4⟩ := h
  obtain ⟨b, o, rfl, hc⟩ := h4 (by omega)
  obtain ⟨e1, e2⟩ := hc j p hp
  obtain ⟨inf, hi, hsz⟩ := Option.map_eq_some_iff.1 hs
  simp only [atP] at hx
  simp only [Gives, execOp, hx]
  have hagg : (isAgg t).run P w = .ok true w := by
    unfold isAgg
    rw [Sem.run_bind, run_underlying ht w]; rfl
  simp [Instr.loadAt, Instr.sureAddr, loadVar, Sem.run_bind, hagg, sizeOf, typeInfo, hi, hsz, loadCells, loadCellsFrom, Addr.add, run_load, e1, e2]
end
theorem pairs_open {W : World} {a : Addr} {len cap m : Nat} (hl : len ≤ cap) (hm : cap ≤ maxLen) (hlm : len ≤ m)
    (hc : ∀ i, i < m → ∃ p : Int × Int, rng p ∧ W.cell? (a.add (i * 2)) = some (.int .i64 p.1) ∧ W.cell? (a.add (i * 2 + 1)) = some (.int .i64 p.2)) : ∃ l, PRow W (.slice (some a) len cap) l ∧ ∀ p ∈ l, rng p := by
  have key : ∃ q : Nat → Int × Int, ∀ i, i < m → rng (q i) ∧ W.cell? (a.add (i * 2)) = some (.int .i64 (q i).1) ∧ W.cell? (a.add (i * 2 + 1)) = some (.int .i64 (q i).2) :=
    ⟨fun i => if h : i < m then Classical.choose (hc i h) else (0, 0), fun i hi => by simp only [hi, dite_true]; exact Classical.choose_spec (hc i hi)⟩
  obtain ⟨q, hq⟩ := key
  refine ⟨(List.range len).map q, ⟨some a, cap, by simp, by simpa using hl, by simpa [maxLen] using hm, fun hp => ?_⟩, fun p hp => ?_⟩
  · simp at hp
    have h0 := (hq 0 (by omega)).2.1
    have hs : a.spot = none := World.cell?_spot (by simpa [Addr.add] using h0)
    obtain ⟨b, o, sp⟩ := a
    simp only at hs
    subst hs
    refine ⟨b, o, rfl, fun j p hj => ?_⟩
    simp only [List.getElem?_map] at hj
    have hjl : j < len := by
      by_cases hh : j < len
      · exact hh
      · rw [List.getElem?_eq_none (by simp; omega)] at hj; cases hj
    rw [List.getElem?_range hjl] at hj
    simp at hj
    subst hj
    have := (hq j (by omega)).2
    rw [show (⟨b, o, none⟩ : Addr).add (j * 2) = ⟨b, o + j * 2, none⟩ by unfold Addr.add; split <;> simp_all, show (⟨b, o, none⟩ : Addr).add (j * 2 + 1) = ⟨b, o + j * 2 + 1, none⟩ by unfold Addr.add; split <;> simp_all [Nat.add_assoc]] at this
    exact this
  · simp at hp
    obtain ⟨i, hi, rfl⟩ := hp
    exact (hq i (by omega)).1
theorem elC : Elem Try.prog 40 25 (.complex .f64 0 0) 16 := ⟨Try.underlying40, by kernel_rfl, rfl⟩
theorem own_appG {α : Type} {f : α → Value} {w : World} {base n : Nat} {e : TypeId} {v : Value} {l l2 : List α} (h : w.ownsRow base e 1 v n (l.map f ++ l2.map f)) : w.ownsRow base e 1 v (l ++ l2).length ((l ++ l2).map f) := by
  have := own_len h
  rw [← List.map_append, List.length_map] at this; exact this
theorem steps_snoc {cl : List (Nat × Nat)} {ps : List (Int × Int)} {i : Nat} {p : Int × Int} {x y : Nat} (h : StepsOf cl (ps.take i)) (hp : ps[i]? = some p) (hx : Fw x p.1) (hy : Fw y p.2) (hb : -1099511627776 ≤ p.1 ∧ p.1 ≤ 1099511627776 ∧ -1099511627776 ≤ p.2 ∧ p.2 ≤ 1099511627776) : StepsOf (cl ++ [(x, y)]) (ps.take (i + 1)) := by
  have hi := (List.getElem?_eq_some_iff.1 hp).1
  have hl : cl.length = i := by rw [h.1, List.length_take]; omega
  have et : ps.take (i + 1) = ps.take i ++ [p] := by rw [List.take_add_one, hp]; rfl
  rw [et]
  refine ⟨by simp [hl]; omega, fun j q hj => ?_⟩
  by_cases hji : j < i
  · rw [List.getElem?_append_left (by omega)] at hj
    obtain ⟨r, h1, h2⟩ := h.2 j q hj
    exact ⟨r, by rw [List.getElem?_append_left (by simp; omega)]; exact h1, h2⟩
  · by_cases he : j = i
    · subst he
      rw [List.getElem?_append_right (by omega), hl, Nat.sub_self] at hj
      simp at hj; subst hj
      exact ⟨p, by rw [List.getElem?_append_right (by simp; omega)]; simp [show min j ps.length = j from by omega], hx, hy, hb⟩
    · rw [List.getElem?_eq_none (by simp; omega)] at hj; cases hj
theorem steps_bd {cl : List (Nat × Nat)} {ps : List (Int × Int)} {j : Nat} {p : Int × Int} (h : StepsOf cl ps) (hp : ps[j]? = some p) : -1099511627776 ≤ p.1 ∧ p.1 ≤ 1099511627776 ∧ -1099511627776 ≤ p.2 ∧ p.2 ≤ 1099511627776 := by
  have hj := (List.getElem?_eq_some_iff.1 hp).1
  obtain ⟨q, h1, _, _, h2⟩ := h.2 j _ (List.getElem?_eq_getElem (by rw [h.1]; exact hj))
  rw [hp] at h1; cases h1; exact h2
theorem r_build2 {P : Program} {E : Env} {w : World} {dst : Option Tmp} {t ty : TypeId} {pos : String} {aft : Array Edge} {gd : Option (Nat × Bool)} {x y : Operand} {a b : Int} {f0 f1 : Field} (hx : ev E x = .int .i64 a) (hy : ev E y = .int .i64 b)
    (ht : P.underlying t = some (.struct #[f0, f1])) (hz : (P.info? t).bind (·.zero) = some (.agg #[.int .i64 0, .int .i64 0])) (h0 : f0.offset = 0) (h1 : f1.offset = 1) (s0 : (P.info? f0.type).map (·.size) = some 1) (s1 : (P.info? f1.type).map (·.size) = some 1) :
    Gives P E w ⟨dst, .build t #[(0, x), (1, y)], ty, pos, aft, gd⟩ (.agg (([a, b] : List Int).map (Value.int .i64)).toArray) w := by
  obtain ⟨i, hi, hz'⟩ := Option.bind_eq_some_iff.1 hz
  obtain ⟨i0, k0, l0⟩ := Option.map_eq_some_iff.1 s0
  obtain ⟨i1, k1, l1⟩ := Option.map_eq_some_iff.1 s1
  simp [Gives, execOp, Instr.build, zeroValue, typeInfo, hi, hz', run_underlying ht, sizeOf, k0, l0, k1, l1, h0, h1, hx, hy, Instr.fill, Value.cells]
set_option maxRecDepth 100000 in
set_option maxHeartbeats 4000000 in
theorem TallySums_c (a : Int) (b : Int) (v1 : Value) (ps : List (Int × Int)) (w : World) (ra : -9223372036854775808 ≤ a ∧ a ≤ 9223372036854775807) (rb : -9223372036854775808 ≤ b ∧ b ≤ 9223372036854775807) (H1 : PRow w v1 ps) (hr : ∀ p ∈ ps, rng p) : Ret Try.prog 6 [.agg (([a, b] : List Int).map (Value.int .i64)).toArray, v1] w fun v w' => v = .bool true ∧ Below w.heap.size w w' := by
  refine ret_E Try.func6 rfl Try.ntmps6 (by simp) ?_
  refine EC_seq ?_
  refine EC_reg ?_
  refine EL_box (([a, b] : List Int).map (Value.int .i64)) rfl rfl rfl ?_
  intro b11 w12 k13 A14 B15 z16
  have B17 : Below w.heap.size w w12 := B15
  have A14' : Arr w12 b11 23 (([a, b] : List Int).map (Value.int .i64)) := A14
  refine EL_val (.bool false) w12 rfl (r_assign rfl) ?_
  refine EL_nil ?_
  refine thn_n ?_
  refine EC_seq ?_
  refine EC_seq ?_
  refine EC_reg ?_
  refine EL_ret [] rfl Try.func9 rfl nm9 rfl (anchor_c w12) ?_
  rintro _ _ ⟨rfl, rfl⟩
  refine EL_val (.bool false) w12 rfl (r_dec (show (!true) = false from rfl) (r_not rfl)) ?_
  refine EL_nil ?_
  refine thn_n ?_
  refine EC_cond_false rfl ?_
  refine EC_skip ?_
  refine thn_n ?_
  refine EC_seq ?_
  refine EC_seq ?_
  refine EC_reg ?_
  refine EL_val (.agg (([a, b] : List Int).map (Value.int .i64)).toArray) w12 rfl (r_loadAll rfl A14' Try.underlying23 rfl (Eq.trans (show _ = some 2 from by kernel_rfl) (congrArg some (by first | (simp; done) | (simp; omega) | rfl)))) ?_
  refine EL_ret [.agg (([a, b] : List Int).map (Value.int .i64)).toArray] rfl Try.func11 rfl nm11 rfl (right_c a b w12 (by omega) (by omega)) ?_
  rintro _ w18 ⟨rfl, B19⟩
  have B20 : Below w.heap.size w w18 := below_full B17 B17.size B19
  have B21 : Below w12.heap.size w12 w18 := B19
  refine EL_val (.bool (!(decide ((0 : Int) ≤ a ∧ a ≤ 1099511627776 ∧ (0 : Int) ≤ b ∧ b ≤ 1099511627776)))) w18 rfl (r_not rfl) ?_
  refine EL_val (.bool (!(decide ((0 : Int) ≤ a ∧ a ≤ 1099511627776 ∧ (0 : Int) ≤ b ∧ b ≤ 1099511627776)))) w18 rfl (r_move rfl) ?_
  refine EL_gite 18 rfl rfl rfl v1 rfl (fun g22 => r_move rfl) ?_
  refine EL_gite 18 rfl rfl rfl (.int .i64 (ps.length : Int)) rfl (fun g23 => r_lenP (cond_of g23 rfl) (H1.below B20) Try.underlying39) ?_
  refine EL_gite 18 rfl rfl rfl (.bool (decide (40 < (ps.length : Int)))) rfl (fun g24 => r_gtr (cond_of g24 rfl) rfl) ?_
  refine EL_val (.bool ((!(decide ((0 : Int) ≤ a ∧ a ≤ 1099511627776 ∧ (0 : Int) ≤ b ∧ b ≤ 1099511627776))) || (decide (40 < (ps.length : Int))))) w18 rfl (r_or rfl rfl rfl) ?_
  refine EL_nil ?_
  refine thn_n ?_
  refine EC_cond (t := (!(decide ((0 : Int) ≤ a ∧ a ≤ 1099511627776 ∧ (0 : Int) ≤ b ∧ b ≤ 1099511627776))) || (decide (40 < (ps.length : Int)))) rfl (fun h25 => ?_) (fun h25 => ?_)
  · refine EC_seq ?_
    refine EC_reg ?_
    refine EL_val (.bool true) w18 rfl (r_assign rfl) ?_
    refine EL_nil ?_
    refine thn_n ?_
    refine EC_ret ?_
    refine thn_r ?_
    refine fin1 Try.results6 (show _ = .bool true from rfl) ⟨_, rfl, ?_⟩
    exact ⟨rfl, B20⟩
  · have h66 := Bool.or_eq_false_iff.1 h25
    have hr0 : (0 : Int) ≤ a ∧ a ≤ 1099511627776 ∧ (0 : Int) ≤ b ∧ b ≤ 1099511627776 := of_decide_eq_true ((Bool.not_eq_false' _).mp h66.1)
    have h40 : ¬ ((40 : Int) < (ps.length : Int)) := of_decide_eq_false h66.2
    refine EC_skip ?_
    refine thn_n ?_
    refine EC_seq ?_
    refine EC_reg ?_
    refine EL_val (.slice none 0 0) w18 rfl (r_assign rfl) ?_
    refine EL_nil ?_
    refine thn_n ?_
    refine EC_seq ?_
    refine EC_seq ?_
    refine EC_reg ?_
    refine EL_val v1 w18 rfl (r_move rfl) ?_
    refine EL_val (.int .i64 (ps.length : Int)) w18 rfl (r_lenP rfl (H1.below B20) Try.underlying39) ?_
    refine EL_val (.int .i64 0) w18 rfl (r_move rfl) ?_
    refine EL_nil ?_
    refine thn_n ?_
    refine EC_block ?_
    refine EC_loop (fun m' E' w' => ∃ i : Int, ∃ ov : Value, ∃ cl : List (Nat × Nat), m' = (ps.length - i).toNat ∧ E' 25 = .int .i64 i ∧ E' 5 = ov ∧ E' 1 = v1 ∧ E' 2 = ptr b11 ∧ E' 23 = v1 ∧ E' 24 = .int .i64 (ps.length : Int) ∧ (0 ≤ i ∧ i ≤ (ps.length : Int)) ∧ ((cl.length : Int) = i) ∧ (StepsOf cl (ps.take i.toNat)) ∧ Below w.heap.size w w' ∧ Below w12.heap.size w12 w' ∧ Below w18.heap.size w18 w' ∧ w'.ownsRow w18.heap.size 25 1 ov (cl).length ((cl).map cv)) _ ⟨0, .slice none 0 0, [], rfl, rfl, rfl, rfl, rfl, rfl, rfl, by omega, by simp, ⟨by simp, fun j p hj => by simp at hj⟩, B20, B21, (Below.refl _ _), (World.ownsRow_nil _ _ _ _)⟩ ?_
    rintro _ E26 w27 ⟨i, ov, cl, rfl, e28, e29, e30, e31, e32, e33, hi, hcl, hst, B34, B35, B36, O37⟩
    refine EC_seq ?_
    refine EC_reg ?_
    refine EL_val (.bool (decide (i < (ps.length : Int)))) w27 rfl (r_lss (by exact e28) (by exact e33)) ?_
    refine EL_nil ?_
    refine thn_n ?_
    refine EC_seq ?_
    refine EC_if (p := i < (ps.length : Int)) rfl (fun h38 => ?_) (fun h38 => ?_)
    · refine EC_skip ?_
      refine thn_n ?_
      refine EC_seq ?_
      refine EC_block ?_
      refine EC_seq ?_
      refine EC_reg ?_
      refine EL_val (.pointer (some (atP v1 ((i : Int).toNat)))) w27 rfl (r_indexP (by exact e32) (H1.below B34) (by exact e28) (by omega) (by omega) Try.underlying39 (by kernel_rfl)) ?_
      obtain ⟨p39, hp40⟩ := get_some (l := ps) (j := (i : Int).toNat) (by omega)
      have rp39 : rng p39 := hr p39 (List.mem_of_getElem? hp40)
      obtain ⟨⟨ap39, bp39⟩, cp39, dp39⟩ := rp39
      refine EL_val (.agg (([p39.1, p39.2] : List Int).map (Value.int .i64)).toArray) w27 rfl (r_loadP rfl (H1.below B34) hp40 Try.underlying23 (by kernel_rfl)) ?_
      refine EL_alloc (z := .agg #[.int .i64 0, .int .i64 0]) (List.replicate 2 (.int .i64 0)) rfl (by kernel_rfl) rfl ?_
      intro b41 w42 k43 A44 B45 z46
      have ne47 : b11 < b41 := by have := ((A14'.below B35)).lt; omega
      have B48 : Below w.heap.size w w42 := below_full B34 B34.size B45
      have B49 : Below w12.heap.size w12 w42 := below_full B35 B35.size B45
      have B50 : Below w18.heap.size w18 w42 := below_full B36 B36.size B45
      have B51 : Below w27.heap.size w27 w42 := B45
      have A44' : Arr w42 b41 23 ((List.replicate 2 0).map (Value.int .i64)) := A44
      refine EL_storeAll (v := .agg (([p39.1, p39.2] : List Int).map (Value.int .i64)).toArray) (cs' := (([p39.1, p39.2] : List Int).map (Value.int .i64)).toArray) rfl rfl rfl A44' (by first | rfl | (simp; done) | (simp; omega)) (Eq.trans (show _ = some 2 from by kernel_rfl) (congrArg some (by first | (simp; done) | (simp; omega) | rfl))) (ints_oneCell _ _) ?_
      intro w52 A53 K54 z55
      have A53' : Arr w52 b41 23 (([p39.1, p39.2] : List Int).map (Value.int .i64)) := by simpa using A53
      have B56 : Below w.heap.size w w52 := below_kept B48 K54 (Nat.le_trans B34.size (Nat.le_of_eq k43.symm)) (B48.size)
      have B57 : Below w12.heap.size w12 w52 := below_kept B49 K54 (Nat.le_trans B35.size (Nat.le_of_eq k43.symm)) (B49.size)
      have B58 : Below w18.heap.size w18 w52 := below_kept B50 K54 (Nat.le_trans B36.size (Nat.le_of_eq k43.symm)) (B50.size)
      have B59 : Below w27.heap.size w27 w52 := below_kept B51 K54 (Nat.le_trans (Nat.le_refl _) (Nat.le_of_eq k43.symm)) (B51.size)
      have A60 : Arr w52 b11 23 (([a, b] : List Int).map (Value.int .i64)) := (A14'.below B49).grew K54 (by simp; omega)
      refine EL_nil ?_
      refine thn_n ?_
      refine EC_seq ?_
      refine EC_seq ?_
      refine EC_reg ?_
      refine EL_val (.agg (([p39.1, p39.2] : List Int).map (Value.int .i64)).toArray) w52 rfl (r_loadAll rfl A53' Try.underlying23 rfl (Eq.trans (show _ = some 2 from by kernel_rfl) (congrArg some (by first | (simp; done) | (simp; omega) | rfl)))) ?_
      refine EL_ret [.agg (([p39.1, p39.2] : List Int).map (Value.int .i64)).toArray] rfl Try.func17 rfl nm17 rfl (pstep_c p39.1 p39.2 w52 (by omega) (by omega)) ?_
      rintro _ w61 ⟨rfl, B62⟩
      have B63 : Below w.heap.size w w61 := below_full B56 B56.size B62
      have B64 : Below w12.heap.size w12 w61 := below_full B57 B57.size B62
      have B65 : Below w18.heap.size w18 w61 := below_full B58 B58.size B62
      have B66 : Below w27.heap.size w27 w61 := below_full B59 B59.size B62
      have B67 : Below w52.heap.size w52 w61 := B62
      refine EL_val (.bool (!(decide ((-1099511627776 : Int) ≤ p39.1 ∧ p39.1 ≤ 1099511627776 ∧ (-1099511627776 : Int) ≤ p39.2 ∧ p39.2 ≤ 1099511627776)))) w61 rfl (r_not rfl) ?_
      refine EL_nil ?_
      refine thn_n ?_
      refine EC_cond (t := !(decide ((-1099511627776 : Int) ≤ p39.1 ∧ p39.1 ≤ 1099511627776 ∧ (-1099511627776 : Int) ≤ p39.2 ∧ p39.2 ≤ 1099511627776))) rfl (fun h68 => ?_) (fun h68 => ?_)
      · refine EC_seq ?_
        refine EC_reg ?_
        refine EL_val (.bool true) w61 rfl (r_assign rfl) ?_
        refine EL_nil ?_
        refine thn_n ?_
        refine EC_ret ?_
        refine thn_r ?_
        refine inB_r ?_
        refine thn_r ?_
        refine thn_r ?_
        refine inB_r ?_
        refine thn_r ?_
        refine fin1 Try.results6 (show _ = .bool true from rfl) ⟨_, rfl, ?_⟩
        exact ⟨rfl, B63⟩
      · have hsb : (-1099511627776 : Int) ≤ p39.1 ∧ p39.1 ≤ 1099511627776 ∧ (-1099511627776 : Int) ≤ p39.2 ∧ p39.2 ≤ 1099511627776 := of_decide_eq_true ((Bool.not_eq_false' _).mp h68)
        refine EC_skip ?_
        refine thn_n ?_
        refine EC_reg ?_
        refine EL_val ov w61 rfl (r_move (by exact e29)) ?_
        refine EL_val (.agg (([p39.1, p39.2] : List Int).map (Value.int .i64)).toArray) w61 rfl (r_loadAll rfl (A53'.below B67) Try.underlying23 rfl (Eq.trans (show _ = some 2 from by kernel_rfl) (congrArg some (by first | (simp; done) | (simp; omega) | rfl)))) ?_
        refine EL_ret [.agg (([p39.1, p39.2] : List Int).map (Value.int .i64)).toArray] rfl Try.func13 rfl nm13 rfl (number_c p39.1 p39.2 w61 (by omega) (by omega)) ?_
        rintro _ w69 ⟨rfl, B70⟩
        have B71 : Below w.heap.size w w69 := below_full B63 B63.size B70
        have B72 : Below w12.heap.size w12 w69 := below_full B64 B64.size B70
        have B73 : Below w18.heap.size w18 w69 := below_full B65 B65.size B70
        have B74 : Below w27.heap.size w27 w69 := below_full B66 B66.size B70
        have B75 : Below w52.heap.size w52 w69 := below_full B67 B67.size B70
        have B76 : Below w61.heap.size w61 w69 := B70
        refine EL_lit w69.heap.size #[.complex .f64 (fw p39.1) (fw p39.2)] elC rfl (by decide) rfl (Nat.le_refl _) (by kernel_rfl) ?_
        intro v77 w78 O79 B80 k81 z82
        have B84 : Below w.heap.size w w78 := below_full B71 B71.size B80
        have B85 : Below w12.heap.size w12 w78 := below_full B72 B72.size B80
        have B86 : Below w18.heap.size w18 w78 := below_full B73 B73.size B80
        have B87 : Below w27.heap.size w27 w78 := below_full B74 B74.size B80
        have B88 : Below w52.heap.size w52 w78 := below_full B75 B75.size B80
        have B89 : Below w61.heap.size w61 w78 := below_full B76 B76.size B80
        have B90 : Below w69.heap.size w69 w78 := B80
        have R83 : Row w78 v77 (([((fw p39.1), (fw p39.2))] : List (Nat × Nat)).map cv) := own_row O79
        refine EL_append (v := ov) (xs := cl.map cv) (ys := ([((fw p39.1), (fw p39.2))] : List (Nat × Nat)).map cv) w18.heap.size elC rfl rfl rfl (by simpa using (own_below O37 B87)) R83 (fun u hu => by simp at hu; subst hu; rfl) (by simp; omega) (by decide) B86.size ?_
        intro v91 w92 O93 G94 A95
        have O93' := own_appG O93
        have B96 : Below w.heap.size w w92 := below_grew B84 G94 (own_below O37 B87) B20.size (B84.size)
        have B97 : Below w12.heap.size w12 w92 := below_grew B85 G94 (own_below O37 B87) B21.size (B85.size)
        have B98 : Below w18.heap.size w18 w92 := below_grew B86 G94 (own_below O37 B87) (Nat.le_refl _) (B86.size)
        refine EL_val v91 w92 rfl (r_assign rfl) ?_
        refine EL_nil ?_
        refine inB_n ?_
        refine thn_n ?_
        refine EC_reg ?_
        refine EL_int (i + 1) rfl (r_addi (by exact e28) rfl (by omega)) ?_
        intro x104 hx104
        refine EL_val (.int .i64 x104) w92 rfl (r_move rfl) ?_
        refine EL_nil ?_
        refine thn_n ?_
        have inv := steps_snoc hst hp40 (fw_is (n := p39.1) (by omega)) (fw_is (n := p39.2) (by omega)) (by omega)
        rw [show i.toNat + 1 = (x104 : Int).toNat from by omega] at inv
        refine ⟨_, ?_, x104, v91, cl ++ [((fw p39.1), (fw p39.2))], rfl, rfl, rfl, (by exact e30), (by exact e31), (by exact e32), (by exact e33), by omega, by simp; omega, inv, B96, B97, B98, O93'⟩
        first | omega | (simp; omega)
    · refine EC_exit ?_
      refine thn_x ?_
      refine thn_x ?_
      refine inB_hit ?_
      refine thn_n ?_
      refine EC_seq ?_
      rcases hsm : smS a b ps with _ | ⟨rx, ry⟩
      · have hst2 : StepsOf cl ps := by rw [show i.toNat = ps.length from by omega, List.take_length] at hst; exact hst
        refine EC_reg ?_
        refine EL_val (.agg (([a, b] : List Int).map (Value.int .i64)).toArray) w27 rfl (r_loadAll (by exact e31) (A14'.below B35) Try.underlying23 rfl (Eq.trans (show _ = some 2 from by kernel_rfl) (congrArg some (by first | (simp; done) | (simp; omega) | rfl)))) ?_
        refine EL_ret [.agg (([a, b] : List Int).map (Value.int .i64)).toArray] rfl Try.func13 rfl nm13 rfl (number_c a b w27 (by omega) (by omega)) ?_
        rintro _ w105 ⟨rfl, B106⟩
        have B107 : Below w.heap.size w w105 := below_full B34 B34.size B106
        have B108 : Below w12.heap.size w12 w105 := below_full B35 B35.size B106
        have B109 : Below w18.heap.size w18 w105 := below_full B36 B36.size B106
        have B110 : Below w27.heap.size w27 w105 := B106
        refine EL_val ov w105 rfl (r_move (by exact e29)) ?_
        refine EL_ret [.complex .f64 (fw a) (fw b), ov] rfl Try.func18 rfl nm18 rfl (Sum_no (fw a) a (fw b) b ov cl ps hst2 w105 (fw_is (n := a) (by omega)) (fw_is (n := b) (by omega)) (by omega) (by omega) (own_row (own_below O37 B110)) (by omega) hsm) ?_
        rintro _ _ ⟨rfl, rfl⟩
        refine EL_val (.tuple #[.complex .f64 0 0, .int .i64 12]) w105 rfl (r_move rfl) ?_
        refine EL_val (.complex .f64 0 0) w105 rfl (r_extract rfl rfl) ?_
        refine EL_val (.int .i64 12) w105 rfl (r_extract rfl rfl) ?_
        refine EL_val (.complex .f64 0 0) w105 rfl (r_assign rfl) ?_
        refine EL_val (.int .i64 12) w105 rfl (r_assign rfl) ?_
        refine EL_nil ?_
        refine thn_n ?_
        refine EC_seq ?_
        refine EC_reg ?_
        refine EL_val (.agg (([a, b] : List Int).map (Value.int .i64)).toArray) w105 rfl (r_loadAll (by exact e31) (A14'.below B108) Try.underlying23 rfl (Eq.trans (show _ = some 2 from by kernel_rfl) (congrArg some (by first | (simp; done) | (simp; omega) | rfl)))) ?_
        refine EL_alloc (z := .agg #[.int .i64 0, .int .i64 0]) (List.replicate 2 (.int .i64 0)) rfl (by kernel_rfl) rfl ?_
        intro b115 w116 k117 A118 B119 z120
        have ne121 : b11 < b115 := by have := ((A14'.below B108)).lt; omega
        have B122 : Below w.heap.size w w116 := below_full B107 B107.size B119
        have B123 : Below w12.heap.size w12 w116 := below_full B108 B108.size B119
        have B124 : Below w18.heap.size w18 w116 := below_full B109 B109.size B119
        have B125 : Below w27.heap.size w27 w116 := below_full B110 B110.size B119
        have B126 : Below w105.heap.size w105 w116 := B119
        have A118' : Arr w116 b115 23 ((List.replicate 2 0).map (Value.int .i64)) := A118
        refine EL_storeAll (v := .agg (([a, b] : List Int).map (Value.int .i64)).toArray) (cs' := (([a, b] : List Int).map (Value.int .i64)).toArray) rfl rfl rfl A118' (by first | rfl | (simp; done) | (simp; omega)) (Eq.trans (show _ = some 2 from by kernel_rfl) (congrArg some (by first | (simp; done) | (simp; omega) | rfl))) (ints_oneCell _ _) ?_
        intro w127 A128 K129 z130
        have A128' : Arr w127 b115 23 (([a, b] : List Int).map (Value.int .i64)) := by simpa using A128
        have B131 : Below w.heap.size w w127 := below_kept B122 K129 (Nat.le_trans B107.size (Nat.le_of_eq k117.symm)) (B122.size)
        have B132 : Below w12.heap.size w12 w127 := below_kept B123 K129 (Nat.le_trans B108.size (Nat.le_of_eq k117.symm)) (B123.size)
        have B133 : Below w18.heap.size w18 w127 := below_kept B124 K129 (Nat.le_trans B109.size (Nat.le_of_eq k117.symm)) (B124.size)
        have B134 : Below w27.heap.size w27 w127 := below_kept B125 K129 (Nat.le_trans B110.size (Nat.le_of_eq k117.symm)) (B125.size)
        have B135 : Below w105.heap.size w105 w127 := below_kept B126 K129 (Nat.le_trans (Nat.le_refl _) (Nat.le_of_eq k117.symm)) (B126.size)
        have A136 : Arr w127 b11 23 (([a, b] : List Int).map (Value.int .i64)) := (A14'.below B123).grew K129 (by simp; omega)
        refine EL_nil ?_
        refine thn_n ?_
        refine EC_seq ?_
        refine EC_seq ?_
        refine EC_reg ?_
        refine EL_val v1 w127 rfl (r_move (by exact e30)) ?_
        refine EL_val (.int .i64 (ps.length : Int)) w127 rfl (r_lenP rfl (H1.below B131) Try.underlying39) ?_
        refine EL_val (.int .i64 0) w127 rfl (r_move rfl) ?_
        refine EL_nil ?_
        refine thn_n ?_
        refine EC_block ?_
        refine EC_loop (fun m' E' w' => ∃ j : Int, ∃ qa : Int, ∃ qb : Int, m' = (ps.length - j).toNat ∧ E' 48 = .int .i64 j ∧ E' 8 = .complex .f64 0 0 ∧ E' 9 = .int .i64 12 ∧ E' 10 = ptr b115 ∧ E' 46 = v1 ∧ E' 47 = .int .i64 (ps.length : Int) ∧ (0 ≤ j ∧ j ≤ (ps.length : Int)) ∧ ((0 : Int) ≤ qa ∧ qa ≤ 1099511627776 ∧ (0 : Int) ≤ qb ∧ qb ≤ 1099511627776) ∧ (smS qa qb (ps.drop j.toNat) = smS a b ps) ∧ Below w.heap.size w w' ∧ Below w12.heap.size w12 w' ∧ Below w18.heap.size w18 w' ∧ Below w27.heap.size w27 w' ∧ Below w105.heap.size w105 w' ∧ Arr w' b115 23 ((([qa, qb] : List Int)).map (Value.int .i64))) _ ⟨0, a, b, rfl, rfl, rfl, rfl, rfl, rfl, rfl, by omega, by omega, rfl, B131, B132, B133, B134, B135, A128'⟩ ?_
        rintro _ E137 w138 ⟨j, qa, qb, rfl, e139, e140, e141, e142, e143, e144, hj, hT, hs, B145, B146, B147, B148, B149, A150⟩
        refine EC_seq ?_
        refine EC_reg ?_
        refine EL_val (.bool (decide (j < (ps.length : Int)))) w138 rfl (r_lss (by exact e139) (by exact e144)) ?_
        refine EL_nil ?_
        refine thn_n ?_
        refine EC_seq ?_
        refine EC_if (p := j < (ps.length : Int)) rfl (fun h151 => ?_) (fun h151 => ?_)
        · refine EC_skip ?_
          refine thn_n ?_
          refine EC_seq ?_
          refine EC_block ?_
          refine EC_seq ?_
          refine EC_reg ?_
          refine EL_val (.pointer (some (atP v1 ((j : Int).toNat)))) w138 rfl (r_indexP (by exact e143) (H1.below B145) (by exact e139) (by omega) (by omega) Try.underlying39 (by kernel_rfl)) ?_
          obtain ⟨p152, hp153⟩ := get_some (l := ps) (j := (j : Int).toNat) (by omega)
          have rp152 : rng p152 := hr p152 (List.mem_of_getElem? hp153)
          obtain ⟨⟨ap152, bp152⟩, cp152, dp152⟩ := rp152
          have sb := steps_bd hst2 hp153
          refine EL_val (.agg (([p152.1, p152.2] : List Int).map (Value.int .i64)).toArray) w138 rfl (r_loadP rfl (H1.below B145) hp153 Try.underlying23 (by kernel_rfl)) ?_
          refine EL_alloc (z := .agg #[.int .i64 0, .int .i64 0]) (List.replicate 2 (.int .i64 0)) rfl (by kernel_rfl) rfl ?_
          intro b154 w155 k156 A157 B158 z159
          have ne160 : b115 < b154 := by have := (A150).lt; omega
          have B161 : Below w.heap.size w w155 := below_full B145 B145.size B158
          have B162 : Below w12.heap.size w12 w155 := below_full B146 B146.size B158
          have B163 : Below w18.heap.size w18 w155 := below_full B147 B147.size B158
          have B164 : Below w27.heap.size w27 w155 := below_full B148 B148.size B158
          have B165 : Below w105.heap.size w105 w155 := below_full B149 B149.size B158
          have B166 : Below w138.heap.size w138 w155 := B158
          have A157' : Arr w155 b154 23 ((List.replicate 2 0).map (Value.int .i64)) := A157
          refine EL_storeAll (v := .agg (([p152.1, p152.2] : List Int).map (Value.int .i64)).toArray) (cs' := (([p152.1, p152.2] : List Int).map (Value.int .i64)).toArray) rfl rfl rfl A157' (by first | rfl | (simp; done) | (simp; omega)) (Eq.trans (show _ = some 2 from by kernel_rfl) (congrArg some (by first | (simp; done) | (simp; omega) | rfl))) (ints_oneCell _ _) ?_
          intro w167 A168 K169 z170
          have A168' : Arr w167 b154 23 (([p152.1, p152.2] : List Int).map (Value.int .i64)) := by simpa using A168
          have B171 : Below w.heap.size w w167 := below_kept B161 K169 (Nat.le_trans B145.size (Nat.le_of_eq k156.symm)) (B161.size)
          have B172 : Below w12.heap.size w12 w167 := below_kept B162 K169 (Nat.le_trans B146.size (Nat.le_of_eq k156.symm)) (B162.size)
          have B173 : Below w18.heap.size w18 w167 := below_kept B163 K169 (Nat.le_trans B147.size (Nat.le_of_eq k156.symm)) (B163.size)
          have B174 : Below w27.heap.size w27 w167 := below_kept B164 K169 (Nat.le_trans B148.size (Nat.le_of_eq k156.symm)) (B164.size)
          have B175 : Below w105.heap.size w105 w167 := below_kept B165 K169 (Nat.le_trans B149.size (Nat.le_of_eq k156.symm)) (B165.size)
          have B176 : Below w138.heap.size w138 w167 := below_kept B166 K169 (Nat.le_trans (Nat.le_refl _) (Nat.le_of_eq k156.symm)) (B166.size)
          have A177 : Arr w167 b115 23 (([qa, qb] : List Int).map (Value.int .i64)) := (A150.below B166).grew K169 (by simp; omega)
          refine EL_nil ?_
          refine thn_n ?_
          refine EC_seq ?_
          refine EC_reg ?_
          refine EL_val (ptr b115 0) w167 rfl (r_fieldA (by exact e142) Try.underlying23 rfl (fun _ => rfl)) ?_
          refine EL_val (.int .i64 qa) w167 rfl (r_loadA rfl A177 (u := .int .i64 qa) rfl Try.underlying3 rfl) ?_
          refine EL_val (ptr b154 0) w167 rfl (r_fieldA rfl Try.underlying23 rfl (fun _ => rfl)) ?_
          refine EL_val (.int .i64 p152.1) w167 rfl (r_loadA rfl A168' (u := .int .i64 p152.1) rfl Try.underlying3 rfl) ?_
          refine EL_int (qa + p152.1) rfl (r_addi rfl rfl (by omega)) ?_
          intro x178 hx178
          refine EL_val (ptr b115 1) w167 rfl (r_fieldA (by exact e142) Try.underlying23 rfl (fun _ => rfl)) ?_
          refine EL_val (.int .i64 qb) w167 rfl (r_loadA rfl A177 (u := .int .i64 qb) rfl Try.underlying3 rfl) ?_
          refine EL_val (ptr b154 1) w167 rfl (r_fieldA rfl Try.underlying23 rfl (fun _ => rfl)) ?_
          refine EL_val (.int .i64 p152.2) w167 rfl (r_loadA rfl A168' (u := .int .i64 p152.2) rfl Try.underlying3 rfl) ?_
          refine EL_int (qb + p152.2) rfl (r_addi rfl rfl (by omega)) ?_
          intro x179 hx179
          refine EL_val (.agg (([x178, x179] : List Int).map (Value.int .i64)).toArray) w167 rfl (r_build2 rfl rfl Try.underlying23 (by kernel_rfl) rfl rfl (by kernel_rfl) (by kernel_rfl)) ?_
          refine EL_storeAll (v := .agg (([x178, x179] : List Int).map (Value.int .i64)).toArray) (cs' := (([x178, x179] : List Int).map (Value.int .i64)).toArray) (by exact e142) rfl rfl A177 (by first | rfl | (simp; done) | (simp; omega)) (Eq.trans (show _ = some 2 from by kernel_rfl) (congrArg some (by first | (simp; done) | (simp; omega) | rfl))) (ints_oneCell _ _) ?_
          intro w180 A181 K182 z183
          have A181' : Arr w180 b115 23 (([x178, x179] : List Int).map (Value.int .i64)) := by simpa using A181
          have B184 : Below w.heap.size w w180 := below_kept B171 K182 (Nat.le_trans B107.size (Nat.le_of_eq k117.symm)) (B171.size)
          have B185 : Below w12.heap.size w12 w180 := below_kept B172 K182 (Nat.le_trans B108.size (Nat.le_of_eq k117.symm)) (B172.size)
          have B186 : Below w18.heap.size w18 w180 := below_kept B173 K182 (Nat.le_trans B109.size (Nat.le_of_eq k117.symm)) (B173.size)
          have B187 : Below w27.heap.size w27 w180 := below_kept B174 K182 (Nat.le_trans B110.size (Nat.le_of_eq k117.symm)) (B174.size)
          have B188 : Below w105.heap.size w105 w180 := below_kept B175 K182 (Nat.le_trans (Nat.le_refl _) (Nat.le_of_eq k117.symm)) (B175.size)
          have A189 : Arr w180 b154 23 (([p152.1, p152.2] : List Int).map (Value.int .i64)) := A168'.grew K182 (by simp; omega)
          refine EL_nil ?_
          refine thn_n ?_
          refine EC_seq ?_
          refine EC_reg ?_
          refine EL_val (.agg (([x178, x179] : List Int).map (Value.int .i64)).toArray) w180 rfl (r_loadAll (by exact e142) A181' Try.underlying23 rfl (Eq.trans (show _ = some 2 from by kernel_rfl) (congrArg some (by first | (simp; done) | (simp; omega) | rfl)))) ?_
          refine EL_ret [.agg (([x178, x179] : List Int).map (Value.int .i64)).toArray] rfl Try.func11 rfl nm11 rfl (right_c x178 x179 w180 (by omega) (by omega)) ?_
          rintro _ w190 ⟨rfl, B191⟩
          have B192 : Below w.heap.size w w190 := below_full B184 B184.size B191
          have B193 : Below w12.heap.size w12 w190 := below_full B185 B185.size B191
          have B194 : Below w18.heap.size w18 w190 := below_full B186 B186.size B191
          have B195 : Below w27.heap.size w27 w190 := below_full B187 B187.size B191
          have B196 : Below w105.heap.size w105 w190 := below_full B188 B188.size B191
          have B197 : Below w180.heap.size w180 w190 := B191
          refine EL_val (.bool (!(decide ((0 : Int) ≤ x178 ∧ x178 ≤ 1099511627776 ∧ (0 : Int) ≤ x179 ∧ x179 ≤ 1099511627776)))) w190 rfl (r_not rfl) ?_
          refine EL_nil ?_
          refine thn_n ?_
          refine EC_cond (t := !(decide ((0 : Int) ≤ x178 ∧ x178 ≤ 1099511627776 ∧ (0 : Int) ≤ x179 ∧ x179 ≤ 1099511627776))) rfl (fun h198 => ?_) (fun h198 => ?_)
          · have hT2 := of_decide_eq_false ((Bool.not_eq_true' _).mp h198)
            refine EC_seq ?_
            refine EC_reg ?_
            refine EL_val (.int .i64 12) w190 rfl (r_move (by exact e141)) ?_
            refine EL_val (.bool true) w190 rfl (r_dec (by decide) (r_eql rfl rfl)) ?_
            refine EL_val (.bool true) w190 rfl (r_move rfl) ?_
            refine EL_gval 68 rfl rfl rfl rfl (.complex .f64 0 0) w190 rfl (r_move (by exact e140)) ?_
            refine EL_gval 68 rfl rfl rfl rfl (.bool true) w190 rfl (r_dec (show (decide ((0 : Int) = (0 : Int)) && decide ((0 : Int) = (0 : Int))) = true from by decide) (r_ceql rfl rfl (fw_const (x := 0) (n := 0) (by decide +kernel) (by decide)) (fw_const (x := 0) (n := 0) (by decide +kernel) (by decide)) (fw_const (x := 0) (n := 0) (by decide +kernel) (by decide)) (fw_const (x := 0) (n := 0) (by decide +kernel) (by decide)))) ?_
            refine EL_val (.bool true) w190 rfl (r_pickT rfl rfl) ?_
            refine EL_val (.bool true) w190 rfl (r_assign rfl) ?_
            refine EL_nil ?_
            refine thn_n ?_
            refine EC_ret ?_
            refine inB_r ?_
            refine thn_r ?_
            refine thn_r ?_
            refine inB_r ?_
            refine thn_r ?_
            refine fin1 Try.results6 (show _ = .bool true from rfl) ⟨_, rfl, ?_⟩
            exact ⟨rfl, B192⟩
          · have hT2 := of_decide_eq_true ((Bool.not_eq_false' _).mp h198)
            refine EC_skip ?_
            refine inB_n ?_
            refine thn_n ?_
            refine EC_reg ?_
            refine EL_int (j + 1) rfl (r_addi (by exact e139) rfl (by omega)) ?_
            intro x199 hx199
            refine EL_val (.int .i64 x199) w190 rfl (r_move rfl) ?_
            refine EL_nil ?_
            refine thn_n ?_
            have es : smS x178 x179 (ps.drop (x199 : Int).toNat) = smS a b ps := by rw [← hs, smS_step hp153 (by omega), show j.toNat + 1 = (x199 : Int).toNat from by omega, hx178, hx179]
            refine ⟨_, ?_, x199, x178, x179, rfl, rfl, (by exact e140), (by exact e141), (by exact e142), (by exact e143), (by exact e144), by omega, by omega, es, B192, B193, B194, B195, B196, (A181'.below B197)⟩
            first | omega | (simp; omega)
        · refine EC_exit ?_
          refine thn_x ?_
          refine thn_x ?_
          refine inB_hit ?_
          refine thn_n ?_
          refine EC_seq ?_
          refine EC_reg ?_
          refine EL_val (.int .i64 12) w138 rfl (r_move (by exact e141)) ?_
          refine EL_val (.bool false) w138 rfl (r_dec (by decide) (r_eql rfl rfl)) ?_
          refine EL_val (.bool false) w138 rfl (r_move rfl) ?_
          refine EL_pass 75 rfl rfl rfl rfl rfl ?_
          refine EL_pass 75 rfl rfl rfl rfl rfl ?_
          refine EL_pass 75 rfl rfl rfl rfl rfl ?_
          refine EL_pass 75 rfl rfl rfl rfl rfl ?_
          refine EL_val (.bool false) w138 rfl (r_pickF rfl rfl) ?_
          refine EL_val (.bool false) w138 rfl (r_assign rfl) ?_
          refine EL_nil ?_
          refine thn_n ?_
          refine EC_ret ?_
          refine fin1 Try.results6 (show _ = .bool false from rfl) ⟨_, rfl, ?_⟩
          exfalso
          have e9 : smS a b ps = some (qa, qb) := by rw [← hs, List.drop_eq_nil_of_le (by omega)]; rfl
          rw [e9] at hsm; cases hsm
      · have hst2 : StepsOf cl ps := by rw [show i.toNat = ps.length from by omega, List.take_length] at hst; exact hst
        refine EC_reg ?_
        refine EL_val (.agg (([a, b] : List Int).map (Value.int .i64)).toArray) w27 rfl (r_loadAll (by exact e31) (A14'.below B35) Try.underlying23 rfl (Eq.trans (show _ = some 2 from by kernel_rfl) (congrArg some (by first | (simp; done) | (simp; omega) | rfl)))) ?_
        refine EL_ret [.agg (([a, b] : List Int).map (Value.int .i64)).toArray] rfl Try.func13 rfl nm13 rfl (number_c a b w27 (by omega) (by omega)) ?_
        rintro _ w200 ⟨rfl, B201⟩
        have B202 : Below w.heap.size w w200 := below_full B34 B34.size B201
        have B203 : Below w12.heap.size w12 w200 := below_full B35 B35.size B201
        have B204 : Below w18.heap.size w18 w200 := below_full B36 B36.size B201
        have B205 : Below w27.heap.size w27 w200 := B201
        refine EL_val ov w200 rfl (r_move (by exact e29)) ?_
        refine EL_ret [.complex .f64 (fw a) (fw b), ov] rfl Try.func18 rfl nm18 rfl (Sum_ok (fw a) a (fw b) b ov cl ps hst2 w200 (fw_is (n := a) (by omega)) (fw_is (n := b) (by omega)) (by omega) (by omega) (own_row (own_below O37 B205)) (by omega) rx ry hsm) ?_
        rintro _ _ ⟨z206, z207, rfl, Fz208, Fz209, rfl⟩
        refine EL_val (.tuple #[.complex .f64 z206 z207, .int .i64 0]) w200 rfl (r_move rfl) ?_
        refine EL_val (.complex .f64 z206 z207) w200 rfl (r_extract rfl rfl) ?_
        refine EL_val (.int .i64 0) w200 rfl (r_extract rfl rfl) ?_
        refine EL_val (.complex .f64 z206 z207) w200 rfl (r_assign rfl) ?_
        refine EL_val (.int .i64 0) w200 rfl (r_assign rfl) ?_
        refine EL_nil ?_
        refine thn_n ?_
        refine EC_seq ?_
        refine EC_reg ?_
        refine EL_val (.agg (([a, b] : List Int).map (Value.int .i64)).toArray) w200 rfl (r_loadAll (by exact e31) (A14'.below B203) Try.underlying23 rfl (Eq.trans (show _ = some 2 from by kernel_rfl) (congrArg some (by first | (simp; done) | (simp; omega) | rfl)))) ?_
        refine EL_alloc (z := .agg #[.int .i64 0, .int .i64 0]) (List.replicate 2 (.int .i64 0)) rfl (by kernel_rfl) rfl ?_
        intro b210 w211 k212 A213 B214 z215
        have ne216 : b11 < b210 := by have := ((A14'.below B203)).lt; omega
        have B217 : Below w.heap.size w w211 := below_full B202 B202.size B214
        have B218 : Below w12.heap.size w12 w211 := below_full B203 B203.size B214
        have B219 : Below w18.heap.size w18 w211 := below_full B204 B204.size B214
        have B220 : Below w27.heap.size w27 w211 := below_full B205 B205.size B214
        have B221 : Below w200.heap.size w200 w211 := B214
        have A213' : Arr w211 b210 23 ((List.replicate 2 0).map (Value.int .i64)) := A213
        refine EL_storeAll (v := .agg (([a, b] : List Int).map (Value.int .i64)).toArray) (cs' := (([a, b] : List Int).map (Value.int .i64)).toArray) rfl rfl rfl A213' (by first | rfl | (simp; done) | (simp; omega)) (Eq.trans (show _ = some 2 from by kernel_rfl) (congrArg some (by first | (simp; done) | (simp; omega) | rfl))) (ints_oneCell _ _) ?_
        intro w222 A223 K224 z225
        have A223' : Arr w222 b210 23 (([a, b] : List Int).map (Value.int .i64)) := by simpa using A223
        have B226 : Below w.heap.size w w222 := below_kept B217 K224 (Nat.le_trans B202.size (Nat.le_of_eq k212.symm)) (B217.size)
        have B227 : Below w12.heap.size w12 w222 := below_kept B218 K224 (Nat.le_trans B203.size (Nat.le_of_eq k212.symm)) (B218.size)
        have B228 : Below w18.heap.size w18 w222 := below_kept B219 K224 (Nat.le_trans B204.size (Nat.le_of_eq k212.symm)) (B219.size)
        have B229 : Below w27.heap.size w27 w222 := below_kept B220 K224 (Nat.le_trans B205.size (Nat.le_of_eq k212.symm)) (B220.size)
        have B230 : Below w200.heap.size w200 w222 := below_kept B221 K224 (Nat.le_trans (Nat.le_refl _) (Nat.le_of_eq k212.symm)) (B221.size)
        have A231 : Arr w222 b11 23 (([a, b] : List Int).map (Value.int .i64)) := (A14'.below B218).grew K224 (by simp; omega)
        refine EL_nil ?_
        refine thn_n ?_
        refine EC_seq ?_
        refine EC_seq ?_
        refine EC_reg ?_
        refine EL_val v1 w222 rfl (r_move (by exact e30)) ?_
        refine EL_val (.int .i64 (ps.length : Int)) w222 rfl (r_lenP rfl (H1.below B226) Try.underlying39) ?_
        refine EL_val (.int .i64 0) w222 rfl (r_move rfl) ?_
        refine EL_nil ?_
        refine thn_n ?_
        refine EC_block ?_
        refine EC_loop (fun m' E' w' => ∃ j : Int, ∃ qa : Int, ∃ qb : Int, m' = (ps.length - j).toNat ∧ E' 48 = .int .i64 j ∧ E' 8 = .complex .f64 z206 z207 ∧ E' 9 = .int .i64 0 ∧ E' 10 = ptr b210 ∧ E' 46 = v1 ∧ E' 47 = .int .i64 (ps.length : Int) ∧ (0 ≤ j ∧ j ≤ (ps.length : Int)) ∧ ((0 : Int) ≤ qa ∧ qa ≤ 1099511627776 ∧ (0 : Int) ≤ qb ∧ qb ≤ 1099511627776) ∧ (smS qa qb (ps.drop j.toNat) = smS a b ps) ∧ Below w.heap.size w w' ∧ Below w12.heap.size w12 w' ∧ Below w18.heap.size w18 w' ∧ Below w27.heap.size w27 w' ∧ Below w200.heap.size w200 w' ∧ Arr w' b210 23 ((([qa, qb] : List Int)).map (Value.int .i64))) _ ⟨0, a, b, rfl, rfl, rfl, rfl, rfl, rfl, rfl, by omega, by omega, rfl, B226, B227, B228, B229, B230, A223'⟩ ?_
        rintro _ E232 w233 ⟨j, qa, qb, rfl, e234, e235, e236, e237, e238, e239, hj, hT, hs, B240, B241, B242, B243, B244, A245⟩
        refine EC_seq ?_
        refine EC_reg ?_
        refine EL_val (.bool (decide (j < (ps.length : Int)))) w233 rfl (r_lss (by exact e234) (by exact e239)) ?_
        refine EL_nil ?_
        refine thn_n ?_
        refine EC_seq ?_
        refine EC_if (p := j < (ps.length : Int)) rfl (fun h246 => ?_) (fun h246 => ?_)
        · refine EC_skip ?_
          refine thn_n ?_
          refine EC_seq ?_
          refine EC_block ?_
          refine EC_seq ?_
          refine EC_reg ?_
          refine EL_val (.pointer (some (atP v1 ((j : Int).toNat)))) w233 rfl (r_indexP (by exact e238) (H1.below B240) (by exact e234) (by omega) (by omega) Try.underlying39 (by kernel_rfl)) ?_
          obtain ⟨p247, hp248⟩ := get_some (l := ps) (j := (j : Int).toNat) (by omega)
          have rp247 : rng p247 := hr p247 (List.mem_of_getElem? hp248)
          obtain ⟨⟨ap247, bp247⟩, cp247, dp247⟩ := rp247
          have sb := steps_bd hst2 hp248
          refine EL_val (.agg (([p247.1, p247.2] : List Int).map (Value.int .i64)).toArray) w233 rfl (r_loadP rfl (H1.below B240) hp248 Try.underlying23 (by kernel_rfl)) ?_
          refine EL_alloc (z := .agg #[.int .i64 0, .int .i64 0]) (List.replicate 2 (.int .i64 0)) rfl (by kernel_rfl) rfl ?_
          intro b249 w250 k251 A252 B253 z254
          have ne255 : b210 < b249 := by have := (A245).lt; omega
          have B256 : Below w.heap.size w w250 := below_full B240 B240.size B253
          have B257 : Below w12.heap.size w12 w250 := below_full B241 B241.size B253
          have B258 : Below w18.heap.size w18 w250 := below_full B242 B242.size B253
          have B259 : Below w27.heap.size w27 w250 := below_full B243 B243.size B253
          have B260 : Below w200.heap.size w200 w250 := below_full B244 B244.size B253
          have B261 : Below w233.heap.size w233 w250 := B253
          have A252' : Arr w250 b249 23 ((List.replicate 2 0).map (Value.int .i64)) := A252
          refine EL_storeAll (v := .agg (([p247.1, p247.2] : List Int).map (Value.int .i64)).toArray) (cs' := (([p247.1, p247.2] : List Int).map (Value.int .i64)).toArray) rfl rfl rfl A252' (by first | rfl | (simp; done) | (simp; omega)) (Eq.trans (show _ = some 2 from by kernel_rfl) (congrArg some (by first | (simp; done) | (simp; omega) | rfl))) (ints_oneCell _ _) ?_
          intro w262 A263 K264 z265
          have A263' : Arr w262 b249 23 (([p247.1, p247.2] : List Int).map (Value.int .i64)) := by simpa using A263
          have B266 : Below w.heap.size w w262 := below_kept B256 K264 (Nat.le_trans B240.size (Nat.le_of_eq k251.symm)) (B256.size)
          have B267 : Below w12.heap.size w12 w262 := below_kept B257 K264 (Nat.le_trans B241.size (Nat.le_of_eq k251.symm)) (B257.size)
          have B268 : Below w18.heap.size w18 w262 := below_kept B258 K264 (Nat.le_trans B242.size (Nat.le_of_eq k251.symm)) (B258.size)
          have B269 : Below w27.heap.size w27 w262 := below_kept B259 K264 (Nat.le_trans B243.size (Nat.le_of_eq k251.symm)) (B259.size)
          have B270 : Below w200.heap.size w200 w262 := below_kept B260 K264 (Nat.le_trans B244.size (Nat.le_of_eq k251.symm)) (B260.size)
          have B271 : Below w233.heap.size w233 w262 := below_kept B261 K264 (Nat.le_trans (Nat.le_refl _) (Nat.le_of_eq k251.symm)) (B261.size)
          have A272 : Arr w262 b210 23 (([qa, qb] : List Int).map (Value.int .i64)) := (A245.below B261).grew K264 (by simp; omega)
          refine EL_nil ?_
          refine thn_n ?_
          refine EC_seq ?_
          refine EC_reg ?_
          refine EL_val (ptr b210 0) w262 rfl (r_fieldA (by exact e237) Try.underlying23 rfl (fun _ => rfl)) ?_
          refine EL_val (.int .i64 qa) w262 rfl (r_loadA rfl A272 (u := .int .i64 qa) rfl Try.underlying3 rfl) ?_
          refine EL_val (ptr b249 0) w262 rfl (r_fieldA rfl Try.underlying23 rfl (fun _ => rfl)) ?_
          refine EL_val (.int .i64 p247.1) w262 rfl (r_loadA rfl A263' (u := .int .i64 p247.1) rfl Try.underlying3 rfl) ?_
          refine EL_int (qa + p247.1) rfl (r_addi rfl rfl (by omega)) ?_
          intro x273 hx273
          refine EL_val (ptr b210 1) w262 rfl (r_fieldA (by exact e237) Try.underlying23 rfl (fun _ => rfl)) ?_
          refine EL_val (.int .i64 qb) w262 rfl (r_loadA rfl A272 (u := .int .i64 qb) rfl Try.underlying3 rfl) ?_
          refine EL_val (ptr b249 1) w262 rfl (r_fieldA rfl Try.underlying23 rfl (fun _ => rfl)) ?_
          refine EL_val (.int .i64 p247.2) w262 rfl (r_loadA rfl A263' (u := .int .i64 p247.2) rfl Try.underlying3 rfl) ?_
          refine EL_int (qb + p247.2) rfl (r_addi rfl rfl (by omega)) ?_
          intro x274 hx274
          refine EL_val (.agg (([x273, x274] : List Int).map (Value.int .i64)).toArray) w262 rfl (r_build2 rfl rfl Try.underlying23 (by kernel_rfl) rfl rfl (by kernel_rfl) (by kernel_rfl)) ?_
          refine EL_storeAll (v := .agg (([x273, x274] : List Int).map (Value.int .i64)).toArray) (cs' := (([x273, x274] : List Int).map (Value.int .i64)).toArray) (by exact e237) rfl rfl A272 (by first | rfl | (simp; done) | (simp; omega)) (Eq.trans (show _ = some 2 from by kernel_rfl) (congrArg some (by first | (simp; done) | (simp; omega) | rfl))) (ints_oneCell _ _) ?_
          intro w275 A276 K277 z278
          have A276' : Arr w275 b210 23 (([x273, x274] : List Int).map (Value.int .i64)) := by simpa using A276
          have B279 : Below w.heap.size w w275 := below_kept B266 K277 (Nat.le_trans B202.size (Nat.le_of_eq k212.symm)) (B266.size)
          have B280 : Below w12.heap.size w12 w275 := below_kept B267 K277 (Nat.le_trans B203.size (Nat.le_of_eq k212.symm)) (B267.size)
          have B281 : Below w18.heap.size w18 w275 := below_kept B268 K277 (Nat.le_trans B204.size (Nat.le_of_eq k212.symm)) (B268.size)
          have B282 : Below w27.heap.size w27 w275 := below_kept B269 K277 (Nat.le_trans B205.size (Nat.le_of_eq k212.symm)) (B269.size)
          have B283 : Below w200.heap.size w200 w275 := below_kept B270 K277 (Nat.le_trans (Nat.le_refl _) (Nat.le_of_eq k212.symm)) (B270.size)
          have A284 : Arr w275 b249 23 (([p247.1, p247.2] : List Int).map (Value.int .i64)) := A263'.grew K277 (by simp; omega)
          refine EL_nil ?_
          refine thn_n ?_
          refine EC_seq ?_
          refine EC_reg ?_
          refine EL_val (.agg (([x273, x274] : List Int).map (Value.int .i64)).toArray) w275 rfl (r_loadAll (by exact e237) A276' Try.underlying23 rfl (Eq.trans (show _ = some 2 from by kernel_rfl) (congrArg some (by first | (simp; done) | (simp; omega) | rfl)))) ?_
          refine EL_ret [.agg (([x273, x274] : List Int).map (Value.int .i64)).toArray] rfl Try.func11 rfl nm11 rfl (right_c x273 x274 w275 (by omega) (by omega)) ?_
          rintro _ w285 ⟨rfl, B286⟩
          have B287 : Below w.heap.size w w285 := below_full B279 B279.size B286
          have B288 : Below w12.heap.size w12 w285 := below_full B280 B280.size B286
          have B289 : Below w18.heap.size w18 w285 := below_full B281 B281.size B286
          have B290 : Below w27.heap.size w27 w285 := below_full B282 B282.size B286
          have B291 : Below w200.heap.size w200 w285 := below_full B283 B283.size B286
          have B292 : Below w275.heap.size w275 w285 := B286
          refine EL_val (.bool (!(decide ((0 : Int) ≤ x273 ∧ x273 ≤ 1099511627776 ∧ (0 : Int) ≤ x274 ∧ x274 ≤ 1099511627776)))) w285 rfl (r_not rfl) ?_
          refine EL_nil ?_
          refine thn_n ?_
          refine EC_cond (t := !(decide ((0 : Int) ≤ x273 ∧ x273 ≤ 1099511627776 ∧ (0 : Int) ≤ x274 ∧ x274 ≤ 1099511627776))) rfl (fun h293 => ?_) (fun h293 => ?_)
          · have hT2 := of_decide_eq_false ((Bool.not_eq_true' _).mp h293)
            refine EC_seq ?_
            refine EC_reg ?_
            refine EL_val (.int .i64 0) w285 rfl (r_move (by exact e236)) ?_
            refine EL_val (.bool false) w285 rfl (r_dec (by decide) (r_eql rfl rfl)) ?_
            refine EL_val (.bool false) w285 rfl (r_move rfl) ?_
            refine EL_pass 68 rfl rfl rfl rfl rfl ?_
            refine EL_pass 68 rfl rfl rfl rfl rfl ?_
            refine EL_val (.bool false) w285 rfl (r_pickF rfl rfl) ?_
            refine EL_val (.bool false) w285 rfl (r_assign rfl) ?_
            refine EL_nil ?_
            refine thn_n ?_
            refine EC_ret ?_
            refine inB_r ?_
            refine thn_r ?_
            refine thn_r ?_
            refine inB_r ?_
            refine thn_r ?_
            refine fin1 Try.results6 (show _ = .bool false from rfl) ⟨_, rfl, ?_⟩
            exfalso
            have e9 : smS a b ps = none := by rw [← hs]; exact smS_none hp248 (by omega)
            rw [e9] at hsm; cases hsm
          · have hT2 := of_decide_eq_true ((Bool.not_eq_false' _).mp h293)
            refine EC_skip ?_
            refine inB_n ?_
            refine thn_n ?_
            refine EC_reg ?_
            refine EL_int (j + 1) rfl (r_addi (by exact e234) rfl (by omega)) ?_
            intro x294 hx294
            refine EL_val (.int .i64 x294) w285 rfl (r_move rfl) ?_
            refine EL_nil ?_
            refine thn_n ?_
            have es : smS x273 x274 (ps.drop (x294 : Int).toNat) = smS a b ps := by rw [← hs, smS_step hp248 (by omega), show j.toNat + 1 = (x294 : Int).toNat from by omega, hx273, hx274]
            refine ⟨_, ?_, x294, x273, x274, rfl, rfl, (by exact e235), (by exact e236), (by exact e237), (by exact e238), (by exact e239), by omega, by omega, es, B287, B288, B289, B290, B291, (A276'.below B292)⟩
            first | omega | (simp; omega)
        · refine EC_exit ?_
          refine thn_x ?_
          refine thn_x ?_
          refine inB_hit ?_
          refine thn_n ?_
          refine EC_seq ?_
          refine EC_reg ?_
          refine EL_val (.int .i64 0) w233 rfl (r_move (by exact e236)) ?_
          refine EL_val (.bool true) w233 rfl (r_dec (by decide) (r_eql rfl rfl)) ?_
          refine EL_val (.bool true) w233 rfl (r_move rfl) ?_
          refine EL_gval 75 rfl rfl rfl rfl (.complex .f64 z206 z207) w233 rfl (r_move (by exact e235)) ?_
          refine EL_gval 75 rfl rfl rfl rfl (.agg (([qa, qb] : List Int).map (Value.int .i64)).toArray) w233 rfl (r_loadAll (by exact e237) A245 Try.underlying23 rfl (Eq.trans (show _ = some 2 from by kernel_rfl) (congrArg some (by first | (simp; done) | (simp; omega) | rfl)))) ?_
          refine EL_gret 75 rfl rfl rfl rfl [.agg (([qa, qb] : List Int).map (Value.int .i64)).toArray] rfl Try.func13 rfl nm13 rfl (number_c qa qb w233 (by omega) (by omega)) ?_
          rintro _ w295 ⟨rfl, B296⟩
          have B297 : Below w.heap.size w w295 := below_full B240 B240.size B296
          have B298 : Below w12.heap.size w12 w295 := below_full B241 B241.size B296
          have B299 : Below w18.heap.size w18 w295 := below_full B242 B242.size B296
          have B300 : Below w27.heap.size w27 w295 := below_full B243 B243.size B296
          have B301 : Below w200.heap.size w200 w295 := below_full B244 B244.size B296
          have B302 : Below w233.heap.size w233 w295 := B296
          have e9 : smS a b ps = some (qa, qb) := by rw [← hs, List.drop_eq_nil_of_le (by omega)]; rfl
          refine EL_gval 75 rfl rfl rfl rfl (.bool true) w295 rfl (r_dec (show (decide (rx = qa) && decide (ry = qb)) = true from by rw [e9] at hsm; cases hsm; simp) (r_ceql rfl rfl Fz208 Fz209 (fw_is (n := qa) (by omega)) (fw_is (n := qb) (by omega)))) ?_
          refine EL_val (.bool true) w295 rfl (r_pickT rfl rfl) ?_
          refine EL_val (.bool true) w295 rfl (r_assign rfl) ?_
          refine EL_nil ?_
          refine thn_n ?_
          refine EC_ret ?_
          refine fin1 Try.results6 (show _ = .bool true from rfl) ⟨_, rfl, ?_⟩
          exact ⟨rfl, B297⟩
theorem own : ownKnob Try.prog.godebug = none := by kernel_rfl
theorem laidOut : laidOutB Try.prog = true := by kernel_rfl
set_option maxRecDepth 100000 in
theorem lifted (os : Os) (started : os.Started) (H : Type) (enc : TypeId × Value → H) :
    ReturnsInHanded {} Try.checked os 6 .any (Rows.tallySumsSpec.pre6 enc Try.prog Try.f6 Rows.tallySumsRow.domain false) (Rows.tallySumsSpec.post enc Try.prog Try.f6 false true false false) := by
  refine returnsInHanded_of_change (C := Try.checked) own started (by kernel_rfl) Try.func6
    (ChangeSpec.witness6 (enc := enc) (C := Try.checked) false ⟨#[], #[.agg #[.int .i64 0, .int .i64 0], .slice none 0 0], []⟩ 8 (by kernel_rfl) (by kernel_rfl) (by kernel_rfl) (by kernel_rfl)) ?_
  intro W base args ds gs before hval0 hW hcnd _
  have hval : ∀ (j : Nat) t v, Try.f6.params[j]? = some t → args[j]? = some v → Value.okWide Try.prog W .any base t v := hval0
  have hW' := hW
  obtain ⟨p, q, hA0, hV, rfl, hfz, hnd⟩ := hW
  have hA : DataW.TrodAll enc Try.prog W 0 (fun _ => true) true Try.f6.params.toList args.toList ds p := hA0
  rw [Try.params6] at hA hval
  obtain ⟨v0, vs0, d0, ds0, p0, q0, hargs, rfl, rfl, h0, r0⟩ := trodAll_cons hA
  obtain ⟨v1, vs1, d1, ds1, p1, q1, rfl, rfl, rfl, h1, r1⟩ := trodAll_cons r0
  obtain ⟨rfl, rfl, rfl⟩ := trodAll_nil r1
  obtain rfl : args = #[v0, v1] := by cases args; simp_all
  obtain ⟨rfl, rfl⟩ := trodVars_none hV
  have k0 := h0
  have lt0 : ∀ x ∈ p0, x.block < W.heap.size := by obtain ⟨m, hm⟩ := k0; exact DataW.trod_lt m _ _ _ hm
  obtain ⟨c0, e0, y0, z0, m0, rfl, rfl, rfl, hy0, hz0⟩ := Go.Joins.open_agg2 Try.underlying23 (by kernel_rfl) (by kernel_rfl) (hval 0 23 v0 rfl rfl) h0
  obtain ⟨a0, ea0, rfl, wa0⟩ := DataW.trod_int Try.underlying3 hy0
  obtain ⟨b0, eb0, rfl, wb0⟩ := DataW.trod_int Try.underlying3 hz0
  simp at ea0 eb0
  subst ea0 eb0
  have k1 := h1
  have lt1 : ∀ x ∈ p1, x.block < W.heap.size := by obtain ⟨m, hm⟩ := k1; exact DataW.trod_lt m _ _ _ hm
  obtain ⟨a1, len1, cap1, rfl⟩ := okWide_slice Try.underlying39 (hval 1 39 v1 rfl rfl)
  obtain ⟨b1, H1, G1⟩ : ∃ l, PRow W (.slice a1 len1 cap1) l ∧ ∀ p ∈ l, rng p := by
    obtain ⟨fuel, hf⟩ := h1
    rcases Go.Deep.open_slice_pairs Try.underlying39 Try.underlying23 (by kernel_rfl) rfl rfl (by kernel_rfl) (by kernel_rfl) hf with ⟨hcs, _⟩ | ⟨x, l, c, m, n, V0, V1, D0, D1, P0, P1, hcs, _, hl, hm, hmm, _, hall⟩
    · simp [Value.cells] at hcs
      obtain ⟨rfl, rfl, rfl⟩ := hcs
      exact ⟨[], ⟨none, 0, rfl, Nat.le_refl _, by decide, fun h => absurd h (by simp)⟩, fun p hp => by cases hp⟩
    · simp [Value.cells] at hcs
      obtain ⟨rfl, rfl, rfl⟩ := hcs
      refine pairs_open (m := m) hl hm (by rw [hmm]; split <;> omega) fun i hi => ?_
      obtain ⟨e0, e1, t0, t1⟩ := hall i hi
      obtain ⟨n0, q0, _, w0⟩ := DataW.trod_int Try.underlying3 t0
      obtain ⟨n1, q1, _, w1⟩ := DataW.trod_int Try.underlying3 t1
      simp at q0 q1
      exact ⟨(n0, n1), ⟨rng_i64 w0, rng_i64 w1⟩, by rw [e0, q0], by rw [e1, q1]⟩
  clear hA0 hval0
  refine Calls.mono (TallySums_c a0 b0 (.slice a1 len1 cap1) b1 W (rng_i64 wa0) (rng_i64 wb0) H1 G1) fun e W' ⟨v', he, hv, bel⟩ => ?_
  subst he
  subst hv
  exact ⟨_, rfl, _, _, _, [], _, [], hW', trodAll_mk1 (shut_bool Try.underlying4 _), (trodAll_cons_mk (Below.trod laidOut (by kernel_rfl) (of_decide_eq_true (by kernel_rfl)) k0 bel lt0) (trodAll_cons_mk (Below.trod laidOut (by kernel_rfl) (of_decide_eq_true (by kernel_rfl)) k1 bel lt1) trodAll_mk0)), rfl, bel.frame _, fun h => by cases h⟩
theorem over : Rows.tallySumsRow.holds Try.pinned (OpenSpec.ofChange Rows.tallySumsSpec) :=
  OpenClaim.holds_of_wide 6 Try.f6 rfl rfl rfl rfl rfl rfl rfl ⟨rfl, rfl, rfl, rfl, rfl⟩ rfl rfl rfl rfl rfl (by kernel_rfl) Try.func6 (by kernel_rfl)
    (of_decide_eq_true (by kernel_rfl)) (by unfold Func.isWrapper; first | (rw [if_pos (by decide +kernel)]; kernel_rfl) | (rw [if_neg (by decide +kernel)]; exact ⟨rfl, rfl⟩))
    (fun os started H enc _ => lifted os started H enc)
end Go.Proofs.Ytieaebbnmebbfaa.tallySums
namespace Go.Proofs.Ytieaebbnmebbfaa
theorem TallySums_holds : Rows.TallySumsSaid := tallySums.over
end Go.Proofs.Ytieaebbnmebbfaa
