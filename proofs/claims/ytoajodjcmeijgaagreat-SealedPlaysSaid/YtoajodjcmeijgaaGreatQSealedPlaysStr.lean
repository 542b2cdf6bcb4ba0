import Derived.ArgAppend
import Derived.Test.YtoajodjcmeijgaaGreatQSealedPlaysPos
set_option linter.unusedVariables false
set_option linter.unusedSimpArgs false
namespace Go.Ecal
open Go.RowKit
section
variable {P : Program} {N : Nat} {Q : Exit → Env → World → Prop} {E : Env} {w w' : World} {ops : Array Oper} {L : List Oper}
variable {d : Nat} {op : Op} {ty : TypeId} {pos : String} {aft : Array Edge} {dst : Option Tmp} {gd : Option (Nat × Bool)}
variable {t t2 T e k : TypeId} {x y : Operand} {v : Value}
/-- A row of bytes of one's own, out of a string: what lies behind it is marked. -/
def OwnS (v : Value) (l : List UInt8) : HP := ⟨fun _ h => ∃ g c cur fz, v = .slice (some ⟨g, 0, none⟩) l.length c ∧ h = PH.one g (.cells cur 5 fz) ∧ cur.size = c ∧ c ≤ maxLen ∧ l.length ≤ c ∧ cur.toList.take l.length = l.map byt ∧ c ≤ fz.1, fun _ h => h⟩
theorem EL_bytesS {l : List UInt8} (hd : Nat.blt d N = true) (hx : ev E x = .string (str l)) (hs : P.underlying t = some .string) (ht : P.underlying t2 = some (.slice 5)) (he : P.underlying 5 = some (.int .u8)) (hn : l.length ≤ 1000000000)
    (h : ∀ v w', Below w.heap.size w w' → (∃ c cur fz, v = .slice (some ⟨w.heap.size, 0, none⟩) l.length c ∧ w'.heap[w.heap.size]? = some (.cells cur 5 fz) ∧ cur.size = c ∧ c ≤ maxLen ∧ l.length ≤ c ∧ cur.toList.take l.length = l.map byt ∧ c ≤ fz.1) → EL P N ops Q L (upd E d v) w') : EL P N ops Q (⟨some d, .convert t t2 x, ty, pos, aft, none⟩ :: L) E w := by
  have hsz : (str l).size = l.length := by simp [str, ByteArray.size]
  have hge := grownCap_ge w l.length 0 5
  have hle := grownCap_le_maxLen w l.length 0 5 (by simp only [maxLen]; omega)
  have hq : (Question.appendCap l.length 0 5).forced = false := rfl
  generalize hc : grownCap w l.length 0 5 = c at *
  have hcut : (Question.appendCap l.length 0 5).cut (w.tape w.drawn (.appendCap l.length 0 5)) = c := hc
  obtain ⟨cs, hcs⟩ : ∃ cs : Array Value, cs = (str l).data.map (fun b => Value.int .u8 b.toNat) ++ Array.replicate (c - l.length) (.int .u8 0) := ⟨_, rfl⟩
  have hcsz : cs.size = c := by rw [hcs]; simp [str]; omega
  have hb : (w.drew.alloc (.cells cs 5)).heap[w.heap.size]? = some (.cells cs 5) := heap_alloc_new w.drew _
  refine EL_val (.slice (some ⟨w.heap.size, 0, none⟩) l.length c) ((w.drew.alloc (.cells cs 5)).freeze ⟨w.heap.size, cs.size, none⟩ 1) hd ?_ (h _ _ ⟨?_, ?_, ?_, ?_, fun k hk => ?_⟩ ⟨c, cs, (cs.size, cs.size + 1), rfl, ?_, hcsz, hle, hge, ?_, by simp [hcsz]⟩)
  · simp only [Gives, execOp, hx, convert]
    have hsh : (w.drew.alloc (.cells cs 5)).shape? w.heap.size = some (5, cs.size) := by simp only [World.shape?, hb]
    simp [run_underlying hs, run_underlying ht, run_underlying he, Conv.stringToBytes, hsz, hq, hcut, newRow, markStringish, shape, freeze, Sem.run, hsh, ← hcs]
  · simp only [World.freeze, Nat.one_ne_zero, if_false]; rfl
  · simp only [World.freeze, Nat.one_ne_zero, if_false]; rfl
  · simp only [World.freeze, Nat.one_ne_zero, if_false]; rfl
  · simp [World.freeze]
  · have : w.heap.size ≠ k := by omega
    simp only [World.freeze, Nat.one_ne_zero, if_false, Array.getElem?_modify, this]
    exact heap_alloc_old w.drew _ (by simpa using hk)
  · simp only [World.freeze, Nat.one_ne_zero, if_false]
    rw [Array.getElem?_modify]
    simp only [if_true, hb, Option.map_some]
    simp
  · rw [hcs]; simp [str, byt]
theorem Sat.newS {I : Gh} {l : List HP} {m : List UInt8} (S : Sat w I l) (hb : Below w.heap.size w w') (h : ∃ c cur fz, v = .slice (some ⟨w.heap.size, 0, none⟩) m.length c ∧ w'.heap[w.heap.size]? = some (.cells cur 5 fz) ∧ cur.size = c ∧ c ≤ maxLen ∧ m.length ≤ c ∧ cur.toList.take m.length = m.map byt ∧ c ≤ fz.1) : Sat w' I (OwnS v m :: l) := by
  obtain ⟨c, cur, fz, hv, ho, h1, h2, h3, h4, h5⟩ := h
  refine S.add (P := OwnS v m) (Nx.below hb) ⟨_, c, cur, fz, hv, rfl, h1, h2, h3, h4, h5⟩ (hp_below hb) (fun k o ek => ?_) (one_le ho)
  unfold PH.one at ek; split at ek
  · omega
  · cases ek
theorem setCells_keeps (b : Nat) : ∀ (vs : List Value) (o : Nat) (w : World), (w.setCells b o vs).os = w.os ∧ (w.setCells b o vs).tape = w.tape ∧ (w.setCells b o vs).output = w.output ∧ (w.setCells b o vs).heap.size = w.heap.size ∧ ∀ k, k ≠ b → (w.setCells b o vs).heap[k]? = w.heap[k]?
  | [], _, w => ⟨rfl, rfl, rfl, rfl, fun _ _ => rfl⟩
  | u :: r, o, w => by
    obtain ⟨h1, h2, h3, h4, h5⟩ := setCells_keeps b r (o + 1) (w.setCell ⟨b, o, none⟩ u)
    refine ⟨h1, h2, h3, h4.trans (by simp [World.setCell]), fun k hk => (h5 k hk).trans ?_⟩
    simp only [World.setCell]; rw [Array.getElem?_modify]; simp only [Ne.symm hk, if_false]
/-- append(v, v2...) where v was made of a string: what comes of it is written no more. -/
theorem EL_appS {I : Gh} {l : List HP} {xs ys : List UInt8} {z : Value} {v2 : Value} (i : Nat) (hE : Elem P t 5 z 1) (hd : Nat.blt d N = true) (hx : ev E x = v) (hy : ev E y = v2) (S : Sat w I l) (hi : l[i]? = some (OwnS v xs)) (hrow : Bs w v2 ys) (hb : xs.length + ys.length ≤ 100000000000)
    (h : ∀ v' w', (∃ J : Gh, I.le J ∧ Sat w' J (l.eraseIdx i) ∧ RoB J v' (xs ++ ys)) → EL P N ops Q L (upd E d v') w') :
    EL P N ops Q (⟨some d, .call { callee := .builtin .append, args := #[x, y], argTypes := #[t, t] }, ty, pos, aft, none⟩ :: L) E w := by
  obtain ⟨inf, hin, hz0, hz1, hz2⟩ := info_parts hE.2.1
  obtain ⟨hh, r, hP, h2, h3, h4, h5, h6⟩ := S.focus hi
  obtain ⟨g, c, cur, fz, rfl, he, hcs, hcm, hxc, htake, hfz⟩ := hP
  have hg : w.heap[g]? = some (.cells cur 5 fz) := by rw [he] at h3; exact le_one h3
  have e0 : w.os = I.os ∧ w.tape = I.tape ∧ w.output = I.out := let ⟨_, _, _, e⟩ := S; e
  have hcell : ∀ j, j < cur.size → w.cell? ⟨g, j, none⟩ = cur[j]? := fun j hj => by simp [World.cell?, hg]
  have hold : ∀ j u, (xs.map byt)[j]? = some u → w.cell? ((⟨g, 0, none⟩ : Addr).add j) = some u := fun j u hu => by
    have hj : j < xs.length := by simpa using (List.getElem?_eq_some_iff.1 hu).1
    rw [show (⟨g, 0, none⟩ : Addr).add j = ⟨g, j, none⟩ by unfold Addr.add; split <;> simp_all, hcell j (by omega)]
    rw [← htake, List.getElem?_take, if_pos hj] at hu
    simpa using hu
  have hrr : ∀ k, k ≠ g → r.le (hp w) := fun _ _ => h4
  obtain ⟨A, c2, rfl, r1, r2, r3, r4⟩ := hrow
  have len2 : (ys.map byt).length = ys.length := by simp
  -- what is written no more: the block at hand
  have fin : ∀ (v' : Value) (w' : World), w.grownBy w' (some g) → v'.ownBlock = some g → Bs w' v' (xs ++ ys) → ∃ J : Gh, I.le J ∧ Sat w' J (l.eraseIdx i) ∧ RoB J v' (xs ++ ys) := fun v' w' hgr hv' hrow' => by
    have hlt : g < w.heap.size := (Array.getElem?_eq_some_iff.1 hg).1
    have hrn : r g = none := by rw [he] at h2; exact dis_one h2
    have hlt' : g < w'.heap.size := Nat.lt_of_lt_of_le hlt hgr.size
    have ho : w'.heap[g]? = some w'.heap[g] := by simp
    have hd2 : (PH.one g w'.heap[g]).dis r := one_dis hrn
    have hdI : (PH.one g w'.heap[g]).dis I.h := PH.dis_mono hd2 h5.base
    have hIJ : I.le ⟨(PH.one g w'.heap[g]).uni I.h, I.os, I.tape, I.out⟩ := ⟨PH.uni_r hdI, rfl, rfl, rfl⟩
    refine ⟨⟨(PH.one g w'.heap[g]).uni I.h, I.os, I.tape, I.out⟩, hIJ, ⟨(PH.one g w'.heap[g]).uni r, h5.more hIJ hd2, PH.uni_le (one_le ho) (rest_kept h4 hgr (fun g' hg' => by cases hg'; exact hrn)), hgr.os.trans e0.1, hgr.tape.trans e0.2.1, hgr.output.trans e0.2.2⟩, fun w2 k => ?_⟩
    refine hrow'.keep fun b hb => ?_
    rw [hv'] at hb; cases hb
    have := k.1 g w'.heap[g] (PH.uni_l _ _ g _ (by simp [PH.one]))
    exact Eq.trans this ho.symm
  by_cases hm : ys.length = 0
  · -- nothing is appended
    have hy0 : ys = [] := List.eq_nil_of_length_eq_zero hm
    subst hy0
    have hb0 : Bs w (.slice (some ⟨g, 0, none⟩) xs.length c) (xs ++ []) := by
      rw [List.append_nil]
      refine ⟨some ⟨g, 0, none⟩, c, by simp, by simpa using hxc, hcm, (fun h => by cases h), fun _ => ⟨g, 0, rfl, fun j hj => ?_⟩⟩
      rw [Nat.zero_add, hcell j (by simp at hj; omega), ← htake, List.getElem?_take, if_pos (by simpa using hj)]; simp
    refine EL_val (.slice (some ⟨g, 0, none⟩) xs.length c) w hd (run_enterBuiltin .append #[x, y] #[t, t] _ _ (Builtin.append_ #[t, t] ty #[.slice (some ⟨g, 0, none⟩) xs.length c, .slice A ([] : List UInt8).length c2]) (fun c => by simp [builtin, hx, hy]) ?_) (h _ _ (fin _ w ⟨rfl, rfl, rfl, Nat.le_refl _, fun _ _ _ => rfl⟩ rfl hb0))
    cases A with
    | none => simp [Builtin.append_, run_underlying hE.1, sizeOf, typeInfo, hin, hz1, Builtin.lenOf, Builtin.firstCells, loadCells, loadCellsFrom, storeCells, hxc]
    | some a => simp [Builtin.append_, run_underlying hE.1, sizeOf, typeInfo, hin, hz1, Builtin.lenOf, Builtin.firstCells, loadCells, loadCellsFrom, storeCells, hxc]
  · obtain ⟨b2, o2, rfl, hc2⟩ := r4 (by simpa using Nat.pos_of_ne_zero hm)
    have hnews : ∀ j u, (ys.map byt)[j]? = some u → w.cell? ((⟨b2, o2, none⟩ : Addr).add j) = some u := fun j u hu => by
      have hj : j < (ys.map byt).length := (List.getElem?_eq_some_iff.1 hu).1
      rw [show (⟨b2, o2, none⟩ : Addr).add j = ⟨b2, o2 + j, none⟩ by unfold Addr.add; split <;> simp_all, hc2 j hj]
      exact hu
    rw [len2] at *
    by_cases hroom : xs.length + ys.length ≤ c
    · have hc : ∀ j, j < (ys.map byt).length → (w.cell? ⟨g, 0 + xs.length * inf.size + j, none⟩).isSome = true := fun j hj => by
        rw [hz1, Nat.mul_one, Nat.zero_add, hcell _ (by simp at hj; omega)]
        have : xs.length + j < cur.size := by simp at hj; omega
        simp [this]
      have hf : ∀ j, j < (ys.map byt).length → w.frozen? ⟨g, 0 + xs.length * inf.size + j, none⟩ = false := fun j hj => by
        simp only [World.frozen?, hg, hz1]
        simp at hj ⊢; omega
      have hr := run_append_room_cells (P := P) w t ty 5 inf hE.1 hin g 0 xs.length c ⟨b2, o2, none⟩ ys.length c2 (ys.map byt) (by rw [hz1]; simp) hnews (byt_one _) hroom hc hf
      rw [hz1, Nat.mul_one, Nat.zero_add] at hr hc
      obtain ⟨k1, k2, k3, k4, k5⟩ := setCells_keeps g (ys.map byt) xs.length w
      refine EL_val _ _ hd (run_enterBuiltin .append #[x, y] #[t, t] _ _ (Builtin.append_ #[t, t] ty #[.slice (some ⟨g, 0, none⟩) xs.length c, .slice (some ⟨b2, o2, none⟩) ys.length c2]) (fun c => by simp [builtin, hx, hy]) hr) (h _ _ (fin _ _ ⟨k1, k2, k3, Nat.le_of_eq k4.symm, fun k _ hk => k5 k (fun e => hk (by rw [e]))⟩ rfl ?_))
      refine ⟨some ⟨g, 0, none⟩, c, by simp, by simpa using hroom, hcm, (fun h => by cases h), fun _ => ⟨g, 0, rfl, fun j hj => ?_⟩⟩
      rw [Nat.zero_add]
      have hj2 : j < xs.length + ys.length := by simpa using hj
      by_cases hjx : j < xs.length
      · rw [World.cell?_setCells_out g _ _ w ⟨g, j, none⟩ (fun _ _ => .inl hjx), hcell j (by omega), List.map_append, List.getElem?_append_left (by simpa using hjx), ← htake, List.getElem?_take, if_pos hjx]; simp
      · obtain ⟨q, rfl⟩ : ∃ q, j = xs.length + q := ⟨j - xs.length, by omega⟩
        rw [World.cell?_setCells_in g _ _ w hc q (by simp; omega), List.map_append, List.getElem?_append_right (by simp)]
        simp
        rw [List.getElem?_eq_getElem (by omega)]; rfl
    · obtain ⟨v', w', hr, hown, hgr⟩ := run_append_arg_grows (P := P) w t ty 5 inf z 1 1 hE.1 hin hz0 hz1 hz2 hE.2.2 (by decide) ⟨g, 0, none⟩ xs.length c (xs.map byt) (by simp) hold ⟨b2, o2, none⟩ ys.length c2 (ys.map byt) (by simp) hnews (by omega) (by simp only [maxLen]; omega) (by omega)
      have hbel : Below w.heap.size w w' := ⟨hgr.os, hgr.tape, hgr.output, hgr.size, fun k hk => hgr.block k hk (by simp)⟩
      refine EL_val v' w' hd (run_enterBuiltin .append #[x, y] #[t, t] _ _ (Builtin.append_ #[t, t] ty #[.slice (some ⟨g, 0, none⟩) xs.length c, .slice (some ⟨b2, o2, none⟩) ys.length c2]) (fun c => by simp [builtin, hx, hy]) hr) (h _ _ ?_)
      have hown2 : w'.ownsRow w.heap.size 5 1 v' (xs ++ ys).length ((xs ++ ys).map byt) := by rw [List.length_append, List.map_append]; exact hown
      obtain ⟨J, hJ, S2, hR⟩ := (S.drop i hi |>.newO hbel hown2).frz 0 rfl
      exact ⟨J, hJ, S2, hR⟩
end
end Go.Ecal
