/-
  A box is what layer 3 makes of the text from the counter 1 on, and layer 4's tag, under the beginning of the block 0, of both texts, filled up, and their lengths.
  Its conditions: none: whatever the input, in whatever memory.
-/
import Derived.Test.YtlhaojpkejpgfaaRows
import Derived.Test.YtlhaojpkejpgfaaWalksC
import Derived.ProofKit
import Derived.OpenShut
import Derived.ShutString
import Derived.ChangeOld
set_option linter.unusedVariables false
set_option linter.unusedSimpArgs false
namespace Go.Proofs.Ytlhaojpkejpgfaa.aeadParts
open Go.ChangeShapes Go.WideShapes Go.ChangeAt Go.RowKit Go.Ecal
open Go.ChangeMaps (open_string shut_string)
section
variable {P : Program} {N : Nat} {Q : Exit → Env → World → Prop} {E : Env} {w w' : World} {ops : Array Oper} {L : List Oper}
variable {d : Nat} {dst : Option Tmp} {gd : Option (Nat × Bool)} {ty : TypeId} {pos : String} {aft : Array Edge} {t ti e : TypeId} {x y : Operand} {v : Value} {xs : List Value}
/-- all of a slice, its room cut off -/
def fullV (v : Value) : Value := match v with | .slice A n c => .slice (if n = 0 then A else A.map (·.add 0)) n n | _ => undef
theorem addr_zero (b o : Nat) : (⟨b, o, none⟩ : Addr).add 0 = ⟨b, o, none⟩ := by simp [Addr.add]
/-- To this may be appended: a row of the call's own, or one without room. -/
def Room (w : World) (base : Nat) (e : TypeId) (v : Value) (xs : List Value) : Prop := w.ownsRow base e 1 v xs.length xs ∨ ∃ A, v = .slice A xs.length xs.length ∧ Row w v xs
theorem Room.row {base : Nat} (h : Room w base e v xs) : Row w v xs := by
  rcases h with h | ⟨A, _, h⟩
  · exact own_row h
  · exact h
theorem full_room {base : Nat} (h : Row w v xs) : Room w base e (fullV v) xs := by
  refine .inr ?_
  obtain ⟨A, c, rfl, h1, h2, h3, h4⟩ := h
  refine ⟨_, rfl, ?_⟩
  by_cases hx : 0 < xs.length
  · obtain ⟨b, o, rfl, hc⟩ := h4 hx
    have hc0 : xs ≠ [] := by intro hh; rw [hh] at hx; simp at hx
    refine ⟨some ⟨b, o, none⟩, xs.length, ?_, Nat.le_refl _, by omega, (fun hh => by cases hh), fun _ => ⟨b, o, rfl, hc⟩⟩
    simp [fullV, hc0, addr_zero]
  · have hx0 : xs.length = 0 := by omega
    refine ⟨_, xs.length, rfl, Nat.le_refl _, by omega, fun _ => hx0, fun hh => absurd hh hx⟩
theorem r_slice3 {k k2 : IntKind} {o o2 : Operand} (hx : ev E x = v) (h : Row w v xs) (ht : P.underlying t = some (.slice e)) (hs : (P.info? e).map (·.size) = some 1) (ho : ev E o = .int k (xs.length : Int)) (ho2 : ev E o2 = .int k2 (xs.length : Int)) :
    Gives P E w ⟨dst, .slice t x none (some o) (some o2), ty, pos, aft, gd⟩ (fullV v) w := by
  obtain ⟨A, c, rfl, h1, h2, h3, h4⟩ := h
  obtain ⟨inf, hinf, hsz⟩ := Option.map_eq_some_iff.1 hs
  simp only [Gives, execOp, hx]
  simp [Instr.sliceAt, run_underlying ht, Instr.slice, Instr.sliceBounds, Instr.sliceBound, asIntOf, sizeOf, typeInfo, hinf, hsz, ho, ho2, h1, fullV]
theorem append_same {bytes : Nat} {z : Value} (hE : Elem P t e z bytes) {A : Option Addr} {n : Nat} {k kx : IntKind} (hti : P.underlying ti = some (.int k)) : (Builtin.append_ #[t, ti] ty #[.slice A n n, .int kx 0]).run P w = .ok (.slice A n n) w := by
  obtain ⟨i, hi, hz, hsz, hby⟩ := info_parts hE.2.1
  have hw0 : IntKind.i64.wrap 0 = 0 := wrap_i64_in ⟨by omega, by omega⟩
  cases A with
  | none => simp [Builtin.append_, run_underlying hE.1, run_underlying hti, sizeOf, typeInfo, hi, hsz, asInt, asIntOf, hw0]
  | some a => simp [Builtin.append_, run_underlying hE.1, run_underlying hti, sizeOf, typeInfo, hi, hsz, asInt, asIntOf, hw0, storeCells]
theorem room_cells {a : Addr} {c : Nat} (h : Row w (.slice (some a) xs.length c) xs) : ∀ j u, xs[j]? = some u → w.cell? (a.add j) = some u := by
  intro j u hu
  have hj : j < xs.length := (List.getElem?_eq_some_iff.1 hu).1
  obtain ⟨A, c', he, _, _, _, h4⟩ := h
  cases he
  obtain ⟨b, o, hab, hc⟩ := h4 (by omega)
  obtain rfl := Option.some.inj hab
  rw [show (⟨b, o, none⟩ : Addr).add j = ⟨b, o + j, none⟩ by unfold Addr.add; split <;> simp_all, hc j hj]
  exact hu
/-- append(v, make([]T, m)...) -/
theorem run_appendzR {z : Value} {bytes : Nat} (h : Elem P t e z bytes) (hz1 : z.cells = #[z]) (ho : z.oneCell' = true) {k kx : IntKind} (hti : P.underlying ti = some (.int k)) {h0 : World} {m : Nat} (hB : Below h0.heap.size h0 w) (hR : Room w h0.heap.size e v xs)
    (hb : (xs.length + m) * bytes ≤ 140737488355328) (hb0 : 0 < bytes) :
    ∃ v' w', (Builtin.append_ #[t, ti] ty #[v, .int kx (m : Int)]).run P w = .ok v' w' ∧ Room w' h0.heap.size e v' (xs ++ List.replicate m z) ∧ Below h0.heap.size h0 w' := by
  rcases hR with hown | ⟨A, rfl, hrow⟩
  · obtain ⟨v', w', h1, h2, h3, _⟩ := run_appendz (ty := ty) (kx := kx) h hz1 ho hti h0.heap.size (m := m) hown hb hb0 hB.size
    exact ⟨v', w', h1, .inl h2, below_grew hB h3 hown (Nat.le_refl _) hB.size⟩
  · by_cases hm : m = 0
    · subst hm
      exact ⟨_, w, append_same h hti, .inr ⟨A, by simp, by simpa using hrow⟩, hB⟩
    · cases A with
      | none =>
        have hx0 : xs = [] := by
          obtain ⟨A', c', he, _, _, h3, _⟩ := hrow
          cases he
          exact List.eq_nil_of_length_eq_zero (h3 rfl)
        subst hx0
        obtain ⟨v', w', h1, h2, h3, _⟩ := run_appendz (ty := ty) (kx := kx) (xs := []) h hz1 ho hti h0.heap.size (m := m) (World.ownsRow_nil w h0.heap.size e 1) hb hb0 hB.size
        exact ⟨v', w', h1, .inl h2, below_grew hB h3 (World.ownsRow_nil w h0.heap.size e 1) (Nat.le_refl _) hB.size⟩
      | some a =>
        obtain ⟨i, hi, hz, hsz, hby⟩ := info_parts h.2.1
        have hle : xs.length + m ≤ 140737488355328 := Nat.le_trans (Nat.le_mul_of_pos_right _ hb0) hb
        have hwm : IntKind.i64.wrap (m : Int) = m := wrap_i64_in ⟨by omega, by omega⟩
        have hneg : ¬ ((m : Int) < 0) := by omega
        have hmb : m * bytes ≤ 140737488355328 := Nat.le_trans (Nat.mul_le_mul_right _ (Nat.le_add_left m xs.length)) hb
        have hby0 : bytes ≠ 0 := by omega
        have hzl : Builtin.zeroCells #[z] m = (List.replicate m z).toArray := by rw [← zeros_list z m]
        have hroom : ¬ (xs.length + m ≤ xs.length) := by omega
        have hfit := growslice_fits (need := xs.length + m) (old := xs.length) (bytes := bytes) (by omega) hb
        have hfit' : ¬ (281474976710656 < Builtin.nextslicecap (xs.length + m) xs.length * bytes) := by omega
        have hbig' : ¬ (281474976710656 < (m : Int) * (bytes : Int)) := by rw [← Int.natCast_mul]; omega
        have hfo := run_firstCells_some (P := P) w.drew 1 xs.length a xs.length xs.length xs (by simp) (by simpa using room_cells hrow)
        refine ⟨.slice (some ⟨w.heap.size, 0, none⟩) (xs.length + m) (grownCap w (xs.length + m) xs.length e), w.drew.alloc (.cells (xs.toArray ++ (List.replicate m z).toArray ++ Builtin.zeroCells #[z] (grownCap w (xs.length + m) xs.length e - (xs.length + m))) e), ?_, ?_, ?_⟩
        · have h63 : ¬ (9223372036854775807 < ((xs.length : Int) + (m : Int))) := by omega
          simp [Builtin.append_, run_underlying h.1, run_underlying hti, sizeOf, typeInfo, zeroValue, hi, hz, hz1, hsz, hby, asInt, asIntOf, hwm, hneg, hbig', hm, hroom, hfit', hby0, h63, Question.forced, hfo, newRow, grownCap, hzl, IntKind.max, IntKind.bits, IntKind.signed]
          try (congr 2; apply Array.ext'; simp [List.append_assoc])
        · have hge := grownCap_ge w (xs.length + m) xs.length e
          have hcm2 := grownCap_le_maxLen w (xs.length + m) xs.length e (by simp only [maxLen]; omega)
          refine .inl ⟨by simp, .inr ⟨w.heap.size, _, _, ?_, hB.size, heap_alloc_new w.drew _, ?_, hcm2, ?_, ?_⟩⟩
          · simp
          · simpa using hge
          · simp [size_zeroCells]; omega
          · simp only [Array.toList_append, Nat.mul_one, List.length_append, List.length_replicate]
            exact List.take_left' (by simp)
        · exact below_full hB hB.size (below_alloc (w := w.drew) _ |> fun hh => ⟨hh.os, hh.tape, hh.output, hh.size, fun k hk => hh.block k hk⟩)
/-- append(v, u...) -/
theorem run_appendR {z : Value} {bytes : Nat} (h : Elem P t e z bytes) {h0 : World} {v2 : Value} {ys : List Value} (hx : ev E x = v) (hy : ev E y = v2) (hB : Below h0.heap.size h0 w) (hR : Room w h0.heap.size e v xs) (hrow : Row w v2 ys)
    (h1 : ∀ u ∈ ys, u.oneCell' = true) (hb : (xs.length + ys.length) * bytes ≤ 140737488355328) (hb0 : 0 < bytes) :
    ∃ v' w', Gives P E w ⟨dst, .call { callee := .builtin .append, args := #[x, y], argTypes := #[t, t] }, ty, pos, aft, gd⟩ v' w' ∧ Room w' h0.heap.size e v' (xs ++ ys) ∧ Below h0.heap.size h0 w' := by
  rcases hR with hown | ⟨A, rfl, hrx⟩
  · obtain ⟨v', w', g1, g2, g3, _⟩ := run_append_E (dst := dst) (ty := ty) (pos := pos) (aft := aft) (gd := gd) h h0.heap.size hx hy hown hrow h1 hb hb0 hB.size
    exact ⟨v', w', g1, .inl g2, below_grew hB g3 hown (Nat.le_refl _) hB.size⟩
  · cases A with
    | none =>
      have hx0 : xs = [] := by
        obtain ⟨A', c', he, _, _, h3, _⟩ := hrx
        cases he
        exact List.eq_nil_of_length_eq_zero (h3 rfl)
      subst hx0
      obtain ⟨v', w', g1, g2, g3, _⟩ := run_append_E (xs := []) (dst := dst) (ty := ty) (pos := pos) (aft := aft) (gd := gd) h h0.heap.size hx hy (World.ownsRow_nil w h0.heap.size e 1) hrow h1 hb hb0 hB.size
      exact ⟨v', w', g1, .inl g2, below_grew hB g3 (World.ownsRow_nil w h0.heap.size e 1) (Nat.le_refl _) hB.size⟩
    | some a =>
      obtain ⟨i, hi, hz, hsz, hby⟩ := info_parts h.2.1
      have hle : xs.length + ys.length ≤ 140737488355328 := Nat.le_trans (Nat.le_mul_of_pos_right _ hb0) hb
      obtain ⟨A2, c2, rfl, r1, r2, r3, r4⟩ := id hrow
      by_cases hm : ys.length = 0
      · have hy0 : ys = [] := List.eq_nil_of_length_eq_zero hm
        subst hy0
        refine ⟨.slice (some a) xs.length xs.length, w, run_enterBuiltin .append #[x, y] #[t, t] _ _ (Builtin.append_ #[t, t] ty #[.slice (some a) xs.length xs.length, .slice A2 0 c2]) (fun c => by simp [builtin, hx, hy]) ?_, .inr ⟨some a, by simp, by simpa using hrx⟩, hB⟩
        cases A2 <;> simp [Builtin.append_, run_underlying h.1, sizeOf, typeInfo, hi, hsz, Builtin.lenOf, Builtin.firstCells, storeCells, loadCells, loadCellsFrom]
      · obtain ⟨b2, o2, rfl, hc2⟩ := r4 (by omega)
        have hnews := room_cells hrow
        have hfit := growslice_fits (need := xs.length + ys.length) (old := xs.length) (bytes := bytes) (by omega) hb
        have hg := run_append_grow (P := P) (w := w) t ty e i z h.1 hi hz a xs.length xs.length xs (by simp [hsz]) (room_cells hrx) ⟨b2, o2, none⟩ ys.length c2 ys (by simp [hsz]) hnews (by omega) (by omega) (by rw [hby]; exact hfit)
        refine ⟨_, _, run_enterBuiltin .append #[x, y] #[t, t] _ _ (Builtin.append_ #[t, t] ty #[.slice (some a) xs.length xs.length, .slice (some ⟨b2, o2, none⟩) ys.length c2]) (fun c => by simp [builtin, hx, hy]) hg, ?_, ?_⟩
        · have hge := grownCap_ge w (xs.length + ys.length) xs.length e
          have hcm2 := grownCap_le_maxLen w (xs.length + ys.length) xs.length e (by simp only [maxLen]; omega)
          refine .inl ⟨by simp, .inr ⟨w.heap.size, _, _, ?_, hB.size, heap_alloc_new w.drew _, ?_, hcm2, ?_, ?_⟩⟩
          · simp
          · simpa using hge
          · simp [size_zeroCells, h.2.2]; omega
          · simp only [Array.toList_append, Nat.mul_one, List.length_append]
            exact List.take_left' (by simp)
        · exact below_full hB hB.size (below_alloc (w := w.drew) _ |> fun hh => ⟨hh.os, hh.tape, hh.output, hh.size, fun k hk => hh.block k hk⟩)
theorem EL_appendR {z : Value} {bytes : Nat} (h0 : World) {v2 : Value} {ys : List Value} (hE : Elem P t e z bytes) (hd : Nat.blt d N = true) (hx : ev E x = v) (hy : ev E y = v2) (hB : Below h0.heap.size h0 w) (hR : Room w h0.heap.size e v xs) (hrow : Row w v2 ys)
    (h1 : ∀ u ∈ ys, u.oneCell' = true) (hb : (xs.length + ys.length) * bytes ≤ 140737488355328) (hb0 : 0 < bytes)
    (h : ∀ v' w', Room w' h0.heap.size e v' (xs ++ ys) → Below h0.heap.size h0 w' → EL P N ops Q L (upd E d v') w') :
    EL P N ops Q (⟨some d, .call { callee := .builtin .append, args := #[x, y], argTypes := #[t, t] }, ty, pos, aft, none⟩ :: L) E w := by
  obtain ⟨v', w', hg, h2, h3⟩ := run_appendR (dst := some d) (ty := ty) (pos := pos) (aft := aft) (gd := none) hE hx hy hB hR hrow h1 hb hb0
  exact EL_val v' w' hd hg (h v' w' h2 h3)
theorem EL_appendzR {z : Value} {bytes : Nat} (h0 : World) (hE : Elem P t e z bytes) (hz1 : z.cells = #[z]) (ho : z.oneCell' = true) {k kx : IntKind} (hti : P.underlying ti = some (.int k)) {n : Int} (hd : Nat.blt d N = true) (hx : ev E x = v) (hy : ev E y = .int kx n) (hn : 0 ≤ n) (hB : Below h0.heap.size h0 w) (hR : Room w h0.heap.size e v xs)
    (hb : (xs.length + n.toNat) * bytes ≤ 140737488355328) (hb0 : 0 < bytes)
    (h : ∀ v' w', Room w' h0.heap.size e v' (xs ++ List.replicate n.toNat z) → Below h0.heap.size h0 w' → EL P N ops Q L (upd E d v') w') :
    EL P N ops Q (⟨some d, .call { callee := .builtin .append, args := #[x, y], argTypes := #[t, ti] }, ty, pos, aft, none⟩ :: L) E w := by
  obtain ⟨v', w', hg, h2, h3⟩ := run_appendzR (ty := ty) (kx := kx) hE hz1 ho hti (m := n.toNat) hB hR hb hb0
  rw [Int.toNat_of_nonneg hn] at hg
  refine EL_val v' w' hd (run_enterBuiltin .append #[x, y] #[t, ti] _ _ (Builtin.append_ #[t, ti] ty #[v, .int kx n]) (fun c => by simp [builtin, hx, hy]) hg) (h v' w' h2 h3)
theorem room_as {base : Nat} {l l2 : List UInt8} (h : Room w base e v (l.map byt)) (he : l = l2) : Room w base e v (l2.map byt) := he ▸ h
end
theorem room_eq {w : World} {base : Nat} {e : TypeId} {v : Value} {xs ys : List Value} (h : Room w base e v xs) (he : xs = ys) : Room w base e v ys := he ▸ h
theorem room_below {w w' : World} {base : Nat} {e : TypeId} {v : Value} {xs : List Value} (h : Room w base e v xs) (hb : Below w.heap.size w w') : Room w' base e v xs := by
  rcases h with h | ⟨A, rfl, h⟩
  · exact .inl (own_below h hb)
  · exact .inr ⟨A, rfl, h.below hb⟩
theorem e8_small {n : Int} (h : 0 ≤ n ∧ n < 256) : e8 n = [bof n, 0, 0, 0, 0, 0, 0, 0] := by
  have e : ∀ p : Int, 256 ≤ p → bof (n / p) = 0 := fun p hp => by rw [Int.ediv_eq_zero_of_lt h.1 (by omega)]; rfl
  simp only [e8, e 256 (by decide), e 65536 (by decide), e 16777216 (by decide), e 4294967296 (by decide), e 1099511627776 (by decide), e 281474976710656 (by decide), e 72057594037927936 (by decide)]
set_option maxRecDepth 100000 in
set_option maxHeartbeats 4000000 in
theorem AeadParts_c (k : List UInt8) (n : List UInt8) (v2 : Value) (o : List UInt8) (v3 : Value) (t : List UInt8) (w : World) (hk : k.length = 32) (hn : n.length = 12) (H2 : Bs w v2 o) (H3 : Bs w v3 t) : Ret Try.prog 7 [.agg (k.map byt).toArray, .agg (n.map byt).toArray, v2, v3] w fun v w' => v = .bool true ∧ Below w.heap.size w w' := by
  refine ret_E Try.func7 rfl Try.ntmps7 (by simp) ?_
  refine EC_seq ?_
  refine EC_reg ?_
  refine EL_box (k.map byt) rfl rfl rfl ?_
  intro b11 w12 k13 A14 B15 z16
  have B18 : Below w.heap.size w w12 := B15
  have R17 : Bs w12 (.slice (some ⟨b11, 0, none⟩) 32 32) k := barr_row A14 (by omega) (by decide)
  refine EL_box (n.map byt) rfl rfl rfl ?_
  intro b19 w20 k21 A22 B23 z24
  have B26 : Below w.heap.size w w20 := below_full B18 B18.size B23
  have B27 : Below w12.heap.size w12 w20 := B23
  have R25 : Bs w20 (.slice (some ⟨b19, 0, none⟩) 12 12) n := barr_row A22 (by omega) (by decide)
  refine EL_val (.bool false) w20 rfl (r_assign rfl) ?_
  refine EL_nil ?_
  refine thn_n ?_
  refine EC_seq ?_
  refine EC_seq ?_
  refine EC_reg ?_
  refine EL_ret [] rfl Try.func9 rfl nm9 rfl (anchor_c w20) ?_
  rintro _ w28 ⟨rfl, B29⟩
  have B30 : Below w.heap.size w w28 := below_full B26 B26.size B29
  have B31 : Below w12.heap.size w12 w28 := below_full B27 B27.size B29
  have B32 : Below w20.heap.size w20 w28 := B29
  refine EL_val (.bool false) w28 rfl (r_dec (show (!true) = false from rfl) (r_not rfl)) ?_
  refine EL_nil ?_
  refine thn_n ?_
  refine EC_cond_false rfl ?_
  refine EC_skip ?_
  refine thn_n ?_
  refine EC_seq ?_
  refine EC_seq ?_
  refine EC_reg ?_
  refine EL_val v2 w28 rfl (r_move rfl) ?_
  refine EL_val (.int .i64 (o.length : Int)) w28 rfl (lenB (r_len rfl (H2.below B30) Try.underlying22)) ?_
  refine EL_val (.bool (decide (100 < (o.length : Int)))) w28 rfl (r_gtr rfl rfl) ?_
  refine EL_val (.bool (decide (100 < (o.length : Int)))) w28 rfl (r_move rfl) ?_
  refine EL_gite 23 rfl rfl rfl v3 rfl (fun g33 => r_move rfl) ?_
  refine EL_gite 23 rfl rfl rfl (.int .i64 (t.length : Int)) rfl (fun g34 => lenB (r_len (cond_of g34 rfl) (H3.below B30) Try.underlying22)) ?_
  refine EL_gite 23 rfl rfl rfl (.bool (decide (200 < (t.length : Int)))) rfl (fun g35 => r_gtr (cond_of g35 rfl) rfl) ?_
  refine EL_val (.bool ((decide (100 < (o.length : Int))) || (decide (200 < (t.length : Int))))) w28 rfl (r_or rfl rfl rfl) ?_
  refine EL_nil ?_
  refine thn_n ?_
  refine EC_cond (t := (decide (100 < (o.length : Int))) || (decide (200 < (t.length : Int)))) rfl (fun h36 => ?_) (fun h36 => ?_)
  · simp at h36
    refine EC_seq ?_
    refine EC_reg ?_
    refine EL_val (.bool true) w28 rfl (r_assign rfl) ?_
    refine EL_nil ?_
    refine thn_n ?_
    refine EC_ret ?_
    refine thn_r ?_
    refine fin1 Try.results7 (show _ = .bool true from rfl) ⟨_, rfl, ?_⟩
    exact ⟨rfl, B30⟩
  · simp at h36
    refine EC_skip ?_
    refine thn_n ?_
    refine EC_seq ?_
    refine EC_held (fun w' => Below w28.heap.size w28 w') (by kernel_rfl) ?_
    intro w37 B38 z39
    have B40 : Below w.heap.size w w37 := below_full B30 B30.size B38
    have B41 : Below w12.heap.size w12 w37 := below_full B31 B31.size B38
    have B42 : Below w20.heap.size w20 w37 := below_full B32 B32.size B38
    have B43 : Below w28.heap.size w28 w37 := B38
    refine EA_strong (fun w' => Below w37.heap.size w37 w') (fun _ hw => below_full B43 B43.size hw) ?_
    refine EA_take 0 rfl (by kernel_rfl) (by kernel_rfl) (by kernel_rfl) (.slice (some ⟨b11, 0, none⟩) 32 32) rfl (fun _ hw => r_sliceA rfl Try.underlying31 (by kernel_rfl)) (Below.refl _ _) ?_
    refine EA_take 1 rfl (by kernel_rfl) (by kernel_rfl) (by kernel_rfl) (.slice (some ⟨b19, 0, none⟩) 12 12) rfl (fun _ hw => r_sliceA rfl Try.underlying32 (by kernel_rfl)) (Below.refl _ _) ?_
    refine EA_take 2 rfl (by kernel_rfl) (by kernel_rfl) (by kernel_rfl) v2 rfl (fun _ hw => r_move rfl) (Below.refl _ _) ?_
    refine EA_take 3 rfl (by kernel_rfl) (by kernel_rfl) (by kernel_rfl) v3 rfl (fun _ hw => r_move rfl) (Below.refl _ _) ?_
    refine EA_call 4 rfl (by kernel_rfl) [.slice (some ⟨b11, 0, none⟩) 32 32, .slice (some ⟨b19, 0, none⟩) 12 12, v2, v3] (.inl rfl) rfl Try.func10 rfl nm10 rfl (Seal_ok (.slice (some ⟨b11, 0, none⟩) 32 32) k (.slice (some ⟨b19, 0, none⟩) 12 12) n v2 o v3 t w37 (R17.below B41) (R25.below B42) (H2.below B40) (H3.below B40) (by first | omega | (simp; done) | (simp; omega)) (by first | omega | (simp; done) | (simp; omega)) (by first | omega | (simp; done) | (simp; omega)) (by first | omega | (simp; done) | (simp; omega))) ?_
    rintro _ w47 ⟨p44, rfl, O45, B46⟩
    have B48 : Below w.heap.size w w47 := below_full B40 B40.size B46
    have B49 : Below w12.heap.size w12 w47 := below_full B41 B41.size B46
    have B50 : Below w20.heap.size w20 w47 := below_full B42 B42.size B46
    have B51 : Below w28.heap.size w28 w47 := below_full B43 B43.size B46
    have B52 : Below w37.heap.size w37 w47 := B46
    refine ⟨B52, ?_⟩
    refine EA_strong (fun w' => Below w47.heap.size w47 w') (fun _ hw => below_full B52 B52.size hw) ?_
    have L53 := box_len k n o t
    refine EA_take 5 rfl (by kernel_rfl) (by kernel_rfl) (by kernel_rfl) (.tuple #[p44, .int .i64 0]) rfl (fun _ hw => r_move rfl) (Below.refl _ _) ?_
    refine EA_take 6 rfl (by kernel_rfl) (by kernel_rfl) (by kernel_rfl) p44 rfl (fun _ hw => r_extract rfl rfl) (Below.refl _ _) ?_
    refine EA_take 7 rfl (by kernel_rfl) (by kernel_rfl) (by kernel_rfl) (.int .i64 0) rfl (fun _ hw => r_extract rfl rfl) (Below.refl _ _) ?_
    refine EA_take 8 rfl (by kernel_rfl) (by kernel_rfl) (by kernel_rfl) p44 rfl (fun _ hw => r_assign rfl) (Below.refl _ _) ?_
    refine EA_take 9 rfl (by kernel_rfl) (by kernel_rfl) (by kernel_rfl) (.int .i64 0) rfl (fun _ hw => r_assign rfl) (Below.refl _ _) ?_
    refine EA_done (by kernel_rfl) ?_
    refine thn_n ?_
    refine EC_seq ?_
    refine EC_held (fun w' => Below w47.heap.size w47 w') (by kernel_rfl) ?_
    intro w54 B55 z56
    have B57 : Below w.heap.size w w54 := below_full B48 B48.size B55
    have B58 : Below w12.heap.size w12 w54 := below_full B49 B49.size B55
    have B59 : Below w20.heap.size w20 w54 := below_full B50 B50.size B55
    have B60 : Below w28.heap.size w28 w54 := below_full B51 B51.size B55
    have B61 : Below w37.heap.size w37 w54 := below_full B52 B52.size B55
    have B62 : Below w47.heap.size w47 w54 := B55
    refine EA_strong (fun w' => Below w54.heap.size w54 w') (fun _ hw => below_full B62 B62.size hw) ?_
    refine EA_take 0 rfl (by kernel_rfl) (by kernel_rfl) (by kernel_rfl) (.slice (some ⟨b11, 0, none⟩) 32 32) rfl (fun _ hw => r_sliceA rfl Try.underlying31 (by kernel_rfl)) (Below.refl _ _) ?_
    refine EA_take 1 rfl (by kernel_rfl) (by kernel_rfl) (by kernel_rfl) (.slice (some ⟨b19, 0, none⟩) 12 12) rfl (fun _ hw => r_sliceA rfl Try.underlying32 (by kernel_rfl)) (Below.refl _ _) ?_
    refine EA_take 2 rfl (by kernel_rfl) (by kernel_rfl) (by kernel_rfl) v3 rfl (fun _ hw => r_move rfl) (Below.refl _ _) ?_
    have L66 := xo_len k 1 n t
    refine EA_call 3 rfl (by kernel_rfl) [.slice (some ⟨b11, 0, none⟩) 32 32, .int .i64 1, .slice (some ⟨b19, 0, none⟩) 12 12, v3] (.inl rfl) rfl Try.func14 rfl nm14 rfl (XOR_ok (.slice (some ⟨b11, 0, none⟩) 32 32) k 1 (.slice (some ⟨b19, 0, none⟩) 12 12) n v3 t w54 (R17.below B58) (R25.below B59) (H3.below B57) (chk_of (by first | omega | (simp; done) | (simp; omega)) (by first | omega | (simp; done) | (simp; omega)) (by omega)) (by first | omega | (simp; done) | (simp; omega))) ?_
    rintro _ w67 ⟨p63, rfl, O64, B65⟩
    have B68 : Below w.heap.size w w67 := below_full B57 B57.size B65
    have B69 : Below w12.heap.size w12 w67 := below_full B58 B58.size B65
    have B70 : Below w20.heap.size w20 w67 := below_full B59 B59.size B65
    have B71 : Below w28.heap.size w28 w67 := below_full B60 B60.size B65
    have B72 : Below w37.heap.size w37 w67 := below_full B61 B61.size B65
    have B73 : Below w47.heap.size w47 w67 := below_full B62 B62.size B65
    have B74 : Below w54.heap.size w54 w67 := B65
    refine ⟨B74, ?_⟩
    refine EA_strong (fun w' => Below w67.heap.size w67 w') (fun _ hw => below_full B74 B74.size hw) ?_
    refine EA_take 4 rfl (by kernel_rfl) (by kernel_rfl) (by kernel_rfl) (.tuple #[p63, .int .i64 0]) rfl (fun _ hw => r_move rfl) (Below.refl _ _) ?_
    refine EA_take 5 rfl (by kernel_rfl) (by kernel_rfl) (by kernel_rfl) p63 rfl (fun _ hw => r_extract rfl rfl) (Below.refl _ _) ?_
    refine EA_take 6 rfl (by kernel_rfl) (by kernel_rfl) (by kernel_rfl) (.int .i64 0) rfl (fun _ hw => r_extract rfl rfl) (Below.refl _ _) ?_
    refine EA_take 7 rfl (by kernel_rfl) (by kernel_rfl) (by kernel_rfl) p63 rfl (fun _ hw => r_assign rfl) (Below.refl _ _) ?_
    refine EA_take 8 rfl (by kernel_rfl) (by kernel_rfl) (by kernel_rfl) (.int .i64 0) rfl (fun _ hw => r_assign rfl) (Below.refl _ _) ?_
    refine EA_done (by kernel_rfl) ?_
    refine thn_n ?_
    refine EC_seq ?_
    refine EC_held (fun w' => Below w67.heap.size w67 w') (by kernel_rfl) ?_
    intro w75 B76 z77
    have B78 : Below w.heap.size w w75 := below_full B68 B68.size B76
    have B79 : Below w12.heap.size w12 w75 := below_full B69 B69.size B76
    have B80 : Below w20.heap.size w20 w75 := below_full B70 B70.size B76
    have B81 : Below w28.heap.size w28 w75 := below_full B71 B71.size B76
    have B82 : Below w37.heap.size w37 w75 := below_full B72 B72.size B76
    have B83 : Below w47.heap.size w47 w75 := below_full B73 B73.size B76
    have B84 : Below w54.heap.size w54 w75 := below_full B74 B74.size B76
    have B85 : Below w67.heap.size w67 w75 := B76
    refine EA_strong (fun w' => Below w75.heap.size w75 w') (fun _ hw => below_full B85 B85.size hw) ?_
    refine EA_take 0 rfl (by kernel_rfl) (by kernel_rfl) (by kernel_rfl) (.slice (some ⟨b11, 0, none⟩) 32 32) rfl (fun _ hw => r_sliceA rfl Try.underlying31 (by kernel_rfl)) (Below.refl _ _) ?_
    refine EA_take 1 rfl (by kernel_rfl) (by kernel_rfl) (by kernel_rfl) (.slice (some ⟨b19, 0, none⟩) 12 12) rfl (fun _ hw => r_sliceA rfl Try.underlying32 (by kernel_rfl)) (Below.refl _ _) ?_
    have L89 := kb_len k 0 n
    refine EA_call 2 rfl (by kernel_rfl) [.slice (some ⟨b11, 0, none⟩) 32 32, .int .i64 0, .slice (some ⟨b19, 0, none⟩) 12 12] (.inl rfl) rfl Try.func15 rfl nm15 rfl (Block_ok (.slice (some ⟨b11, 0, none⟩) 32 32) k 0 (.slice (some ⟨b19, 0, none⟩) 12 12) n w75 (R17.below B79) (R25.below B80) (chk_of (by first | omega | (simp; done) | (simp; omega)) (by first | omega | (simp; done) | (simp; omega)) (by omega))) ?_
    rintro _ w90 ⟨p86, rfl, O87, B88⟩
    have B91 : Below w.heap.size w w90 := below_full B78 B78.size B88
    have B92 : Below w12.heap.size w12 w90 := below_full B79 B79.size B88
    have B93 : Below w20.heap.size w20 w90 := below_full B80 B80.size B88
    have B94 : Below w28.heap.size w28 w90 := below_full B81 B81.size B88
    have B95 : Below w37.heap.size w37 w90 := below_full B82 B82.size B88
    have B96 : Below w47.heap.size w47 w90 := below_full B83 B83.size B88
    have B97 : Below w54.heap.size w54 w90 := below_full B84 B84.size B88
    have B98 : Below w67.heap.size w67 w90 := below_full B85 B85.size B88
    have B99 : Below w75.heap.size w75 w90 := B88
    refine ⟨B99, ?_⟩
    refine EA_strong (fun w' => Below w90.heap.size w90 w') (fun _ hw => below_full B99 B99.size hw) ?_
    refine EA_take 3 rfl (by kernel_rfl) (by kernel_rfl) (by kernel_rfl) (.tuple #[p86, .int .i64 0]) rfl (fun _ hw => r_move rfl) (Below.refl _ _) ?_
    refine EA_take 4 rfl (by kernel_rfl) (by kernel_rfl) (by kernel_rfl) p86 rfl (fun _ hw => r_extract rfl rfl) (Below.refl _ _) ?_
    refine EA_take 5 rfl (by kernel_rfl) (by kernel_rfl) (by kernel_rfl) (.int .i64 0) rfl (fun _ hw => r_extract rfl rfl) (Below.refl _ _) ?_
    refine EA_take 6 rfl (by kernel_rfl) (by kernel_rfl) (by kernel_rfl) p86 rfl (fun _ hw => r_assign rfl) (Below.refl _ _) ?_
    refine EA_take 7 rfl (by kernel_rfl) (by kernel_rfl) (by kernel_rfl) (.int .i64 0) rfl (fun _ hw => r_assign rfl) (Below.refl _ _) ?_
    refine EA_done (by kernel_rfl) ?_
    refine thn_n ?_
    refine EC_seq ?_
    refine EC_seq ?_
    refine EC_reg ?_
    refine EL_val (.int .i64 0) w90 rfl (r_move rfl) ?_
    refine EL_val (.bool false) w90 rfl (r_dec (by decide) (r_neq rfl rfl)) ?_
    refine EL_val (.bool false) w90 rfl (r_move rfl) ?_
    refine EL_gval 51 rfl rfl rfl rfl (.int .i64 0) w90 rfl (r_move rfl) ?_
    refine EL_gval 51 rfl rfl rfl rfl (.bool false) w90 rfl (r_dec (by decide) (r_neq rfl rfl)) ?_
    refine EL_val (.bool false) w90 rfl (r_pickF rfl rfl) ?_
    refine EL_val (.bool false) w90 rfl (r_move rfl) ?_
    refine EL_gval 55 rfl rfl rfl rfl (.int .i64 0) w90 rfl (r_move rfl) ?_
    refine EL_gval 55 rfl rfl rfl rfl (.bool false) w90 rfl (r_dec (by decide) (r_neq rfl rfl)) ?_
    refine EL_val (.bool false) w90 rfl (r_pickF rfl rfl) ?_
    refine EL_nil ?_
    refine thn_n ?_
    refine EC_cond_false rfl ?_
    refine EC_skip ?_
    refine thn_n ?_
    refine EC_seq ?_
    refine EC_reg ?_
    refine EL_val v2 w90 rfl (r_move rfl) ?_
    refine EL_val v2 w90 rfl (r_move rfl) ?_
    refine EL_val (.int .i64 (o.length : Int)) w90 rfl (lenB (r_len rfl (H2.below B91) Try.underlying22)) ?_
    refine EL_val v2 w90 rfl (r_move rfl) ?_
    refine EL_val (.int .i64 (o.length : Int)) w90 rfl (lenB (r_len rfl (H2.below B91) Try.underlying22)) ?_
    refine EL_val (fullV v2) w90 rfl (r_slice3 rfl (H2.below B91) Try.underlying22 (by kernel_rfl) (by rw [List.length_map]; exact rfl) (by rw [List.length_map]; exact rfl)) ?_
    have R100 : Room w90 w90.heap.size 5 (fullV v2) (o.map byt) := full_room (H2.below B91)
    refine EL_val v2 w90 rfl (r_move rfl) ?_
    refine EL_val (.int .i64 (o.length : Int)) w90 rfl (lenB (r_len rfl (H2.below B91) Try.underlying22)) ?_
    refine EL_int ((o.length : Int) % 16) rfl (r_remi rfl rfl (by omega) (by omega)) ?_
    intro x101 hx101
    refine EL_int (16 - x101) rfl (r_subi rfl rfl (by omega)) ?_
    intro x102 hx102
    refine EL_int (x102 % 16) rfl (r_remi rfl rfl (by omega) (by omega)) ?_
    intro x103 hx103
    refine EL_appendzR w90 elB rfl rfl Try.underlying3 rfl rfl rfl (by omega) (Below.refl _ _) R100 (by first | (simp only [List.length_map]; omega) | (simp; omega)) (by decide) ?_
    intro v104 w105 R106 B107
    have B109 : Below w.heap.size w w105 := below_full B91 B91.size B107
    have B110 : Below w12.heap.size w12 w105 := below_full B92 B92.size B107
    have B111 : Below w20.heap.size w20 w105 := below_full B93 B93.size B107
    have B112 : Below w28.heap.size w28 w105 := below_full B94 B94.size B107
    have B113 : Below w37.heap.size w37 w105 := below_full B95 B95.size B107
    have B114 : Below w47.heap.size w47 w105 := below_full B96 B96.size B107
    have B115 : Below w54.heap.size w54 w105 := below_full B97 B97.size B107
    have B116 : Below w67.heap.size w67 w105 := below_full B98 B98.size B107
    have B117 : Below w75.heap.size w75 w105 := below_full B99 B99.size B107
    have B118 := B107
    have R108' : Room w105 w90.heap.size 5 v104 ((o ++ List.replicate (x103 : Int).toNat (0 : UInt8)).map byt) := room_eq R106 (by simp only [List.map_append, List.map_replicate]; rfl)
    have R108 := room_as R108' (show o ++ List.replicate (x103 : Int).toNat (0 : UInt8) = fil o from by rw [fil]; congr 2; unfold padn; omega)
    have L119 : (fil o).length ≤ 1000 := by simp only [List.length_append, fil_len, xo_len]; have := padn_lt o.length; have := padn_lt (xo k 1 n t).length; have := padn_lt t.length; first | omega | (simp only [xo_len] at *; omega) | (simp [e8]; omega)
    refine EL_val v104 w105 rfl (r_assign rfl) ?_
    refine EL_nil ?_
    refine thn_n ?_
    refine EC_seq ?_
    refine EC_reg ?_
    refine EL_val v104 w105 rfl (r_move rfl) ?_
    refine EL_val p63 w105 rfl (r_move rfl) ?_
    refine EL_appendR w90 elB rfl rfl rfl B118 R108 ((own_row O64).below B116) (byt_one _) (by first | (simp only [List.length_map]; omega) | (simp only [List.length_map, List.length_cons, List.length_nil]; omega) | (simp; omega)) (by decide) ?_
    intro v120 w121 R122 B123
    have B125 : Below w.heap.size w w121 := below_full B91 B91.size B123
    have B126 : Below w12.heap.size w12 w121 := below_full B92 B92.size B123
    have B127 : Below w20.heap.size w20 w121 := below_full B93 B93.size B123
    have B128 : Below w28.heap.size w28 w121 := below_full B94 B94.size B123
    have B129 : Below w37.heap.size w37 w121 := below_full B95 B95.size B123
    have B130 : Below w47.heap.size w47 w121 := below_full B96 B96.size B123
    have B131 : Below w54.heap.size w54 w121 := below_full B97 B97.size B123
    have B132 : Below w67.heap.size w67 w121 := below_full B98 B98.size B123
    have B133 : Below w75.heap.size w75 w121 := below_full B99 B99.size B123
    have B134 := B123
    have R124' : Room w121 w90.heap.size 5 v120 (((fil o) ++ (xo k 1 n t)).map byt) := room_eq R122 (by simp only [List.map_append])
    have R124 := room_as R124' (show (fil o) ++ (xo k 1 n t) = fil o ++ xo k 1 n t from rfl)
    have L135 : (fil o ++ xo k 1 n t).length ≤ 1000 := by simp only [List.length_append, fil_len, xo_len]; have := padn_lt o.length; have := padn_lt (xo k 1 n t).length; have := padn_lt t.length; first | omega | (simp only [xo_len] at *; omega) | (simp [e8]; omega)
    refine EL_val p63 w121 rfl (r_move rfl) ?_
    refine EL_val (.int .i64 ((xo k 1 n t).length : Int)) w121 rfl (lenB (r_len rfl ((own_row O64).below B132) Try.underlying22)) ?_
    refine EL_int (((xo k 1 n t).length : Int) % 16) rfl (r_remi rfl rfl (by omega) (by omega)) ?_
    intro x136 hx136
    refine EL_int (16 - x136) rfl (r_subi rfl rfl (by omega)) ?_
    intro x137 hx137
    refine EL_int (x137 % 16) rfl (r_remi rfl rfl (by omega) (by omega)) ?_
    intro x138 hx138
    refine EL_appendzR w90 elB rfl rfl Try.underlying3 rfl rfl rfl (by omega) B134 R124 (by first | (simp only [List.length_map]; omega) | (simp; omega)) (by decide) ?_
    intro v139 w140 R141 B142
    have B144 : Below w.heap.size w w140 := below_full B91 B91.size B142
    have B145 : Below w12.heap.size w12 w140 := below_full B92 B92.size B142
    have B146 : Below w20.heap.size w20 w140 := below_full B93 B93.size B142
    have B147 : Below w28.heap.size w28 w140 := below_full B94 B94.size B142
    have B148 : Below w37.heap.size w37 w140 := below_full B95 B95.size B142
    have B149 : Below w47.heap.size w47 w140 := below_full B96 B96.size B142
    have B150 : Below w54.heap.size w54 w140 := below_full B97 B97.size B142
    have B151 : Below w67.heap.size w67 w140 := below_full B98 B98.size B142
    have B152 : Below w75.heap.size w75 w140 := below_full B99 B99.size B142
    have B153 := B142
    have R143' : Room w140 w90.heap.size 5 v139 (((fil o ++ xo k 1 n t) ++ List.replicate (x138 : Int).toNat (0 : UInt8)).map byt) := room_eq R141 (by simp only [List.map_append, List.map_replicate]; rfl)
    have R143 := room_as R143' (show (fil o ++ xo k 1 n t) ++ List.replicate (x138 : Int).toNat (0 : UInt8) = fil o ++ fil (xo k 1 n t) from by rw [List.append_assoc]; congr 1; rw [fil]; congr 2; unfold padn; omega)
    have L154 : (fil o ++ fil (xo k 1 n t)).length ≤ 1000 := by simp only [List.length_append, fil_len, xo_len]; have := padn_lt o.length; have := padn_lt (xo k 1 n t).length; have := padn_lt t.length; first | omega | (simp only [xo_len] at *; omega) | (simp [e8]; omega)
    refine EL_val v139 w140 rfl (r_assign rfl) ?_
    refine EL_nil ?_
    refine thn_n ?_
    refine EC_seq ?_
    refine EC_reg ?_
    refine EL_val v139 w140 rfl (r_move rfl) ?_
    refine EL_val v2 w140 rfl (r_move rfl) ?_
    refine EL_val (.int .i64 (o.length : Int)) w140 rfl (lenB (r_len rfl (H2.below B144) Try.underlying22)) ?_
    refine EL_val (.int .u8 ((o.length : Int) % 256)) w140 rfl (r_convb 3 5 rfl Try.underlying3 Try.underlying5) ?_
    refine EL_val p63 w140 rfl (r_move rfl) ?_
    refine EL_val (.int .i64 ((xo k 1 n t).length : Int)) w140 rfl (lenB (r_len rfl ((own_row O64).below B151) Try.underlying22)) ?_
    refine EL_val (.int .u8 (((xo k 1 n t).length : Int) % 256)) w140 rfl (r_convb 3 5 rfl Try.underlying3 Try.underlying5) ?_
    refine EL_lit w140.heap.size #[.int .u8 ((o.length : Int) % 256), .int .u8 0, .int .u8 0, .int .u8 0, .int .u8 0, .int .u8 0, .int .u8 0, .int .u8 0, .int .u8 (((xo k 1 n t).length : Int) % 256), .int .u8 0, .int .u8 0, .int .u8 0, .int .u8 0, .int .u8 0, .int .u8 0, .int .u8 0] elB rfl (by decide) rfl (Nat.le_refl _) (by kernel_rfl) ?_
    intro v155 w156 O157 B158 k159 z160
    have B161 : Below w.heap.size w w156 := below_full B144 B144.size B158
    have B162 : Below w12.heap.size w12 w156 := below_full B145 B145.size B158
    have B163 : Below w20.heap.size w20 w156 := below_full B146 B146.size B158
    have B164 : Below w28.heap.size w28 w156 := below_full B147 B147.size B158
    have B165 : Below w37.heap.size w37 w156 := below_full B148 B148.size B158
    have B166 : Below w47.heap.size w47 w156 := below_full B149 B149.size B158
    have B167 : Below w54.heap.size w54 w156 := below_full B150 B150.size B158
    have B168 : Below w67.heap.size w67 w156 := below_full B151 B151.size B158
    have B169 : Below w75.heap.size w75 w156 := below_full B152 B152.size B158
    have B170 : Below w90.heap.size w90 w156 := below_full B153 B153.size B158
    have B171 : Below w140.heap.size w140 w156 := B158
    have O157' := own_eq (l := [bof (o.length : Int), (0 : UInt8), (0 : UInt8), (0 : UInt8), (0 : UInt8), (0 : UInt8), (0 : UInt8), (0 : UInt8), bof ((xo k 1 n t).length : Int), (0 : UInt8), (0 : UInt8), (0 : UInt8), (0 : UInt8), (0 : UInt8), (0 : UInt8), (0 : UInt8)]) O157 (by simp [bof_val, byt])
    have R177 := room_below R143 B158
    refine EL_appendR w90 elB rfl rfl rfl B170 R177 (own_row O157') (byt_one _) (by first | (simp only [List.length_map]; omega) | (simp only [List.length_map, List.length_cons, List.length_nil]; omega) | (simp; omega)) (by decide) ?_
    intro v172 w173 R174 B175
    have B178 : Below w.heap.size w w173 := below_full B91 B91.size B175
    have B179 : Below w12.heap.size w12 w173 := below_full B92 B92.size B175
    have B180 : Below w20.heap.size w20 w173 := below_full B93 B93.size B175
    have B181 : Below w28.heap.size w28 w173 := below_full B94 B94.size B175
    have B182 : Below w37.heap.size w37 w173 := below_full B95 B95.size B175
    have B183 : Below w47.heap.size w47 w173 := below_full B96 B96.size B175
    have B184 : Below w54.heap.size w54 w173 := below_full B97 B97.size B175
    have B185 : Below w67.heap.size w67 w173 := below_full B98 B98.size B175
    have B186 : Below w75.heap.size w75 w173 := below_full B99 B99.size B175
    have B187 := B175
    have R176' : Room w173 w90.heap.size 5 v172 (((fil o ++ fil (xo k 1 n t)) ++ [bof (o.length : Int), (0 : UInt8), (0 : UInt8), (0 : UInt8), (0 : UInt8), (0 : UInt8), (0 : UInt8), (0 : UInt8), bof ((xo k 1 n t).length : Int), (0 : UInt8), (0 : UInt8), (0 : UInt8), (0 : UInt8), (0 : UInt8), (0 : UInt8), (0 : UInt8)]).map byt) := room_eq R174 (by simp only [List.map_append])
    have R176 := room_as R176' (show (fil o ++ fil (xo k 1 n t)) ++ [bof (o.length : Int), (0 : UInt8), (0 : UInt8), (0 : UInt8), (0 : UInt8), (0 : UInt8), (0 : UInt8), (0 : UInt8), bof ((xo k 1 n t).length : Int), (0 : UInt8), (0 : UInt8), (0 : UInt8), (0 : UInt8), (0 : UInt8), (0 : UInt8), (0 : UInt8)] = ((fil o ++ fil (xo k 1 n t)) ++ e8 o.length) ++ e8 (xo k 1 n t).length from by rw [e8_small (by omega), e8_small (by rw [xo_len]; omega)]; simp only [List.append_assoc, List.cons_append, List.nil_append])
    have L188 : (((fil o ++ fil (xo k 1 n t)) ++ e8 o.length) ++ e8 (xo k 1 n t).length).length ≤ 1000 := by simp only [List.length_append, fil_len, xo_len]; have := padn_lt o.length; have := padn_lt (xo k 1 n t).length; have := padn_lt t.length; first | omega | (simp only [xo_len] at *; omega) | (simp [e8]; omega)
    refine EL_val v172 w173 rfl (r_assign rfl) ?_
    refine EL_nil ?_
    refine thn_n ?_
    refine EC_seq ?_
    refine EC_reg ?_
    refine EL_val p86 w173 rfl (r_move rfl) ?_
    refine EL_val (cutV p86 0 32) w173 rfl (r_slice rfl ((own_row O87).below B187) Try.underlying22 (by kernel_rfl) 0 32 (by first | omega | (simp; omega) | simp) (by first | omega | (simp; omega) | simp) (.inl ⟨rfl, rfl⟩) (.inr ⟨_, _, rfl, rfl⟩)) ?_
    have R189 : Bs w90 (cutV p86 0 32) ((kb k 0 n).take 32) := Bs.upto (own_row O87) 32 (by first | omega | (simp; omega) | simp)
    have L190 : ((kb k 0 n).take 32).length = 32 - 0 := by first | (simp; done) | (simp; omega)
    refine EL_val v172 w173 rfl (r_move rfl) ?_
    refine EL_ret [(cutV p86 0 32), v172] rfl Try.func16 rfl nm16 rfl (Tag_ok (cutV p86 0 32) ((kb k 0 n).take 32) v172 (((fil o ++ fil (xo k 1 n t)) ++ e8 o.length) ++ e8 (xo k 1 n t).length) w173 (R189.below B187) ((R176).row) (by first | omega | (simp; done) | (simp; omega))) ?_
    rintro _ w194 ⟨p191, rfl, O192, B193⟩
    have B195 : Below w.heap.size w w194 := below_full B178 B178.size B193
    have B196 : Below w12.heap.size w12 w194 := below_full B179 B179.size B193
    have B197 : Below w20.heap.size w20 w194 := below_full B180 B180.size B193
    have B198 : Below w28.heap.size w28 w194 := below_full B181 B181.size B193
    have B199 : Below w37.heap.size w37 w194 := below_full B182 B182.size B193
    have B200 : Below w47.heap.size w47 w194 := below_full B183 B183.size B193
    have B201 : Below w54.heap.size w54 w194 := below_full B184 B184.size B193
    have B202 : Below w67.heap.size w67 w194 := below_full B185 B185.size B193
    have B203 : Below w75.heap.size w75 w194 := below_full B186 B186.size B193
    have B204 : Below w90.heap.size w90 w194 := below_full B187 B187.size B193
    have B205 : Below w173.heap.size w173 w194 := B193
    have L206 := tag_len ((kb k 0 n).take 32) (((fil o ++ fil (xo k 1 n t)) ++ e8 o.length) ++ e8 (xo k 1 n t).length)
    refine EL_val (.tuple #[p191, .int .i64 0]) w194 rfl (r_move rfl) ?_
    refine EL_val p191 w194 rfl (r_extract rfl rfl) ?_
    refine EL_val (.int .i64 0) w194 rfl (r_extract rfl rfl) ?_
    refine EL_val p191 w194 rfl (r_assign rfl) ?_
    refine EL_val (.int .i64 0) w194 rfl (r_assign rfl) ?_
    refine EL_nil ?_
    refine thn_n ?_
    refine EC_seq ?_
    refine EC_reg ?_
    refine EL_val (.int .i64 0) w194 rfl (r_move rfl) ?_
    refine EL_val (.bool true) w194 rfl (r_dec (by decide) (r_eql rfl rfl)) ?_
    refine EL_val (.bool true) w194 rfl (r_move rfl) ?_
    refine EL_gval 98 rfl rfl rfl rfl p44 w194 rfl (r_move rfl) ?_
    refine EL_gval 98 rfl rfl rfl rfl (.string (str (box k n o t))) w194 rfl (r_str rfl ((own_row O45).below B200) Try.underlying22 Try.underlying5 Try.underlying9) ?_
    refine EL_gval 98 rfl rfl rfl rfl p63 w194 rfl (r_move rfl) ?_
    refine EL_gval 98 rfl rfl rfl rfl (.string (str (xo k 1 n t))) w194 rfl (r_str rfl ((own_row O64).below B202) Try.underlying22 Try.underlying5 Try.underlying9) ?_
    refine EL_gval 98 rfl rfl rfl rfl p191 w194 rfl (r_move rfl) ?_
    refine EL_gval 98 rfl rfl rfl rfl (.string (str (tag ((kb k 0 n).take 32) (((fil o ++ fil (xo k 1 n t)) ++ e8 o.length) ++ e8 (xo k 1 n t).length)))) w194 rfl (r_str rfl (own_row O192) Try.underlying22 Try.underlying5 Try.underlying9) ?_
    refine EL_gval 98 rfl rfl rfl rfl (.string (str ((xo k 1 n t) ++ (tag ((kb k 0 n).take 32) (((fil o ++ fil (xo k 1 n t)) ++ e8 o.length) ++ e8 (xo k 1 n t).length))))) w194 rfl (r_adds rfl rfl (by first | omega | (simp; omega))) ?_
    refine EL_gval 98 rfl rfl rfl rfl (.bool true) w194 rfl (r_dec (show (decide ((box k n o t) = ((xo k 1 n t) ++ (tag ((kb k 0 n).take 32) (((fil o ++ fil (xo k 1 n t)) ++ e8 o.length) ++ e8 (xo k 1 n t).length))))) = true from decide_eq_true rfl) (r_eqls rfl rfl)) ?_
    refine EL_val (.bool true) w194 rfl (r_pickT rfl rfl) ?_
    refine EL_val (.bool true) w194 rfl (r_assign rfl) ?_
    refine EL_nil ?_
    refine thn_n ?_
    refine EC_ret ?_
    refine fin1 Try.results7 (show _ = .bool true from rfl) ⟨_, rfl, ?_⟩
    exact ⟨rfl, B195⟩
theorem own : ownKnob Try.prog.godebug = none := by kernel_rfl
theorem laidOut : laidOutB Try.prog = true := by kernel_rfl
set_option maxRecDepth 100000 in
theorem lifted (os : Os) (started : os.Started) (H : Type) (enc : TypeId × Value → H) :
    ReturnsInHanded {} Try.checked os 7 .any (Rows.aeadPartsSpec.pre6 enc Try.prog Try.f7 Rows.aeadPartsRow.domain false) (Rows.aeadPartsSpec.post enc Try.prog Try.f7 false true false false) := by
  refine returnsInHanded_of_change (C := Try.checked) own started (by kernel_rfl) Try.func7
    (ChangeSpec.witness6 (enc := enc) (C := Try.checked) false ⟨#[], #[.agg #[.int .u8 0, .int .u8 0, .int .u8 0, .int .u8 0, .int .u8 0, .int .u8 0, .int .u8 0, .int .u8 0, .int .u8 0, .int .u8 0, .int .u8 0, .int .u8 0, .int .u8 0, .int .u8 0, .int .u8 0, .int .u8 0, .int .u8 0, .int .u8 0, .int .u8 0, .int .u8 0, .int .u8 0, .int .u8 0, .int .u8 0, .int .u8 0, .int .u8 0, .int .u8 0, .int .u8 0, .int .u8 0, .int .u8 0, .int .u8 0, .int .u8 0, .int .u8 0], .agg #[.int .u8 0, .int .u8 0, .int .u8 0, .int .u8 0, .int .u8 0, .int .u8 0, .int .u8 0, .int .u8 0, .int .u8 0, .int .u8 0, .int .u8 0, .int .u8 0], .slice none 0 0, .slice none 0 0], []⟩ 8 (by kernel_rfl) (by kernel_rfl) (by kernel_rfl) (by kernel_rfl)) ?_
  intro W base args ds gs before hval0 hW hcnd _
  have hval : ∀ (j : Nat) t v, Try.f7.params[j]? = some t → args[j]? = some v → Value.okWide Try.prog W .any base t v := hval0
  have hW' := hW
  obtain ⟨p, q, hA0, hV, rfl, hfz, hnd⟩ := hW
  have hA : DataW.TrodAll enc Try.prog W 0 (fun _ => true) true Try.f7.params.toList args.toList ds p := hA0
  rw [Try.params7] at hA hval
  obtain ⟨v0, vs0, d0, ds0, p0, q0, hargs, rfl, rfl, h0, r0⟩ := trodAll_cons hA
  obtain ⟨v1, vs1, d1, ds1, p1, q1, rfl, rfl, rfl, h1, r1⟩ := trodAll_cons r0
  obtain ⟨v2, vs2, d2, ds2, p2, q2, rfl, rfl, rfl, h2, r2⟩ := trodAll_cons r1
  obtain ⟨v3, vs3, d3, ds3, p3, q3, rfl, rfl, rfl, h3, r3⟩ := trodAll_cons r2
  obtain ⟨rfl, rfl, rfl⟩ := trodAll_nil r3
  obtain rfl : args = #[v0, v1, v2, v3] := by cases args; simp_all
  obtain ⟨rfl, rfl⟩ := trodVars_none hV
  have k0 := h0
  have lt0 : ∀ x ∈ p0, x.block < W.heap.size := by obtain ⟨m, hm⟩ := k0; exact DataW.trod_lt m _ _ _ hm
  obtain ⟨l0, hl0, rfl⟩ := arr_open (n := 32) Try.underlying31 Try.underlying5 (by kernel_rfl) (by kernel_rfl) (hval 0 31 v0 rfl rfl) h0
  have k1 := h1
  have lt1 : ∀ x ∈ p1, x.block < W.heap.size := by obtain ⟨m, hm⟩ := k1; exact DataW.trod_lt m _ _ _ hm
  obtain ⟨l1, hl1, rfl⟩ := arr_open (n := 12) Try.underlying32 Try.underlying5 (by kernel_rfl) (by kernel_rfl) (hval 1 32 v1 rfl rfl) h1
  have k2 := h2
  have lt2 : ∀ x ∈ p2, x.block < W.heap.size := by obtain ⟨m, hm⟩ := k2; exact DataW.trod_lt m _ _ _ hm
  obtain ⟨a2, len2, cap2, rfl⟩ := okWide_slice Try.underlying22 (hval 2 22 v2 rfl rfl)
  obtain ⟨b2, H2⟩ : ∃ l, Bs W (.slice a2 len2 cap2) l := by
    obtain ⟨fuel, hf⟩ := h2
    rcases open_ints Try.underlying22 Try.underlying5 (by kernel_rfl) hf with ⟨hcs, _⟩ | ⟨x, l, c, zs, hcs, _, hl, hm, hz, _, hcell, hwz⟩
    · simp [Value.cells] at hcs
      obtain ⟨rfl, rfl, rfl⟩ := hcs
      exact ⟨[], Row.nil W⟩
    · simp [Value.cells] at hcs
      obtain ⟨rfl, rfl, rfl⟩ := hcs
      exact bs_open hl hm (by simpa using hz) hcell hwz
  have k3 := h3
  have lt3 : ∀ x ∈ p3, x.block < W.heap.size := by obtain ⟨m, hm⟩ := k3; exact DataW.trod_lt m _ _ _ hm
  obtain ⟨a3, len3, cap3, rfl⟩ := okWide_slice Try.underlying22 (hval 3 22 v3 rfl rfl)
  obtain ⟨b3, H3⟩ : ∃ l, Bs W (.slice a3 len3 cap3) l := by
    obtain ⟨fuel, hf⟩ := h3
    rcases open_ints Try.underlying22 Try.underlying5 (by kernel_rfl) hf with ⟨hcs, _⟩ | ⟨x, l, c, zs, hcs, _, hl, hm, hz, _, hcell, hwz⟩
    · simp [Value.cells] at hcs
      obtain ⟨rfl, rfl, rfl⟩ := hcs
      exact ⟨[], Row.nil W⟩
    · simp [Value.cells] at hcs
      obtain ⟨rfl, rfl, rfl⟩ := hcs
      exact bs_open hl hm (by simpa using hz) hcell hwz
  clear hA0 hval0
  refine Calls.mono (AeadParts_c l0 l1 (.slice a2 len2 cap2) b2 (.slice a3 len3 cap3) b3 W hl0 hl1 H2 H3) fun e W' ⟨v', he, hv, bel⟩ => ?_
  subst he
  subst hv
  exact ⟨_, rfl, _, _, _, [], _, [], hW', trodAll_mk1 (shut_bool Try.underlying4 _), (trodAll_cons_mk (Below.trod laidOut (by kernel_rfl) (of_decide_eq_true (by kernel_rfl)) k0 bel lt0) (trodAll_cons_mk (Below.trod laidOut (by kernel_rfl) (of_decide_eq_true (by kernel_rfl)) k1 bel lt1) (trodAll_cons_mk (Below.trod laidOut (by kernel_rfl) (of_decide_eq_true (by kernel_rfl)) k2 bel lt2) (trodAll_cons_mk (Below.trod laidOut (by kernel_rfl) (of_decide_eq_true (by kernel_rfl)) k3 bel lt3) trodAll_mk0)))), rfl, bel.frame _, fun h => by cases h⟩
theorem over : Rows.aeadPartsRow.holds Try.pinned (OpenSpec.ofChange Rows.aeadPartsSpec) :=
  OpenClaim.holds_of_wide 7 Try.f7 rfl rfl rfl rfl rfl rfl rfl ⟨rfl, rfl, rfl, rfl, rfl⟩ rfl rfl rfl rfl rfl (by kernel_rfl) Try.func7 (by kernel_rfl)
    (of_decide_eq_true (by kernel_rfl)) (by unfold Func.isWrapper; first | (rw [if_pos (by decide +kernel)]; kernel_rfl) | (rw [if_neg (by decide +kernel)]; exact ⟨rfl, rfl⟩))
    (fun os started H enc _ => lifted os started H enc)
end Go.Proofs.Ytlhaojpkejpgfaa.aeadParts
namespace Go.Proofs.Ytlhaojpkejpgfaa
theorem AeadParts_holds : Rows.AeadPartsSaid := aeadParts.over
end Go.Proofs.Ytlhaojpkejpgfaa
