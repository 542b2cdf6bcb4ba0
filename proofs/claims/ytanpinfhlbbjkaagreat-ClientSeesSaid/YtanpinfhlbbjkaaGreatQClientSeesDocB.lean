import Derived.Sort.KeysCollected
import Derived.Shelf.SlIter.Nil
import Derived.Shelf.SortM.Plain
import Derived.Shelf.SortM.SortNone
import Derived.Ground.GgzProg
import Derived.Ground.SlgmProg
import Derived.Test.YtanpinfhlbbjkaaGreatQClientSeesRing2
import Derived.Test.YtanpinfhlbbjkaaGreatQClientSeesDocA
set_option linter.unusedVariables false
set_option linter.unusedSimpArgs false
namespace Go.Ecal
open Go.RowKit Go.Maps Go.WideElems Go.ChangeMaps
theorem before_lt : ∀ (a b : List UInt8), bytesBefore a b = true → a < b
  | [], [], h => by simp [bytesBefore] at h
  | [], _ :: _, _ => List.nil_lt_cons _ _
  | _ :: _, [], h => by simp [bytesBefore] at h
  | x :: r, y :: s, h => by
    simp only [bytesBefore, Bool.or_eq_true, Bool.and_eq_true, decide_eq_true_eq, beq_iff_eq] at h
    rw [List.cons_lt_cons_iff]
    rcases h with h | ⟨rfl, h⟩
    · exact .inl h
    · exact .inr ⟨rfl, before_lt r s h⟩
/-- Rising names. -/
abbrev RiseD (K : List Doc) : Prop := K.Pairwise fun p q => bytesBefore p.1 q.1 = true
section
variable {P : Program} {k : TypeId} {K : List Doc} {arr : Array MapEntry} {clock b : Nat} {w : World} {I : Gh} {l : List HP}
theorem MdAt.rising (hk : P.underlying k = some .string) (h : MdAt P k K arr clock) : RiseD K := by
  have h1 := Go.ChangeMaps.sorted_sorted _ (Go.WideElems.Fit.strKeys (Go.WideMaps.string_law hk) h.1) (Go.WideElems.Fit.apart (Go.WideMaps.string_law hk) h.1)
  rw [h.2] at h1
  exact List.pairwise_map.1 h1
theorem Sat.rising (S : Sat w I l) (i : Nat) (hi : l[i]? = some (Md P k b K)) (hk : P.underlying k = some .string) : RiseD K := by
  obtain ⟨arr, clock, _, h⟩ := S.md i hi; exact h.rising hk
theorem rising_sort (h : RiseD K) {ss : List (List UInt8)} (hp : ss.Perm (K.map Prod.fst)) : ss.mergeSort (fun x y => decide (x ≤ y)) = K.map Prod.fst := by
  refine (mergeSort_of_perm hp).trans ?_
  refine List.mergeSort_of_pairwise ?_
  exact List.pairwise_map.2 (h.imp fun {p q} hpq => by simp only [leB, decide_eq_true_eq]; exact List.le_of_lt (before_lt _ _ hpq))
theorem keys_enc : strKeys (DataW.map (K.map encD)) = K.map Prod.fst := by simp [strKeys, encD, strOf, Function.comp_def]
theorem rising_lk (h : RiseD K) {j : Nat} {d : Doc} (hj : K[j]? = some d) : lkD K d.1 = some d.2 := by
  induction K generalizing j with
  | nil => simp at hj
  | cons p r ih =>
    have hc := List.pairwise_cons.1 h
    cases j with
    | zero => simp at hj; subst hj; rw [lkD, if_pos rfl]
    | succ j =>
      have hj2 : r[j]? = some d := by simpa using hj
      have hb := hc.1 d (List.mem_of_getElem? hj2)
      rw [lkD, if_neg (fun q => by rw [q, Go.WideAt.bytes_irrefl] at hb; cases hb)]
      exact ih hc.2 hj2
theorem all2_str : ∀ (l : List (List UInt8)), (∀ s ∈ l, s.length ≤ 1000000) → All2 (strR.r I) (l.map fun s => [Value.string (str s)]) l
  | [], _ => .nil
  | s :: r, h => .cons ⟨rfl, Nat.le_trans (h s (by simp)) (by decide)⟩ (all2_str r fun t ht => h t (by simp [ht]))
theorem flat_str : ∀ (l : List (List UInt8)), (l.map fun s => [Value.string (str s)]).flatten = l.map Go.Proofs.encStr
  | [] => rfl
  | s :: r => by rw [List.map_cons, List.flatten_cons, flat_str r]; rfl
/-- A row of names that was made. -/
theorem Sat.newS {w' : World} {v : Value} {l2 : List (List UInt8)} {e : TypeId} {n : Nat} (S : Sat w I l) (hb : Below w.heap.size w w') (ho : w'.ownsRow w.heap.size e 1 v n (l2.map Go.Proofs.encStr)) (hn : n = l2.length) (hl : ∀ s ∈ l2, s.length ≤ 1000000) : Sat w' I (OwnX e strR v l2 :: l) :=
  OwnX.cls (all2_str l2 hl) (by rw [flat_str, ← hn]; exact S.newO hb ho)
end
end Go.Ecal

set_option maxRecDepth 100000
set_option maxHeartbeats 4000000
namespace Go.Proofs.YtanpinfhlbbjkaaGreat
open Go.RowKit Go.Ecal
open Go.Maps Go.Sort Go.Shelf Go.WideElems Go.ChangeMaps
def keysD_ren : Go.Shelf.Ren := ⟨fun | 7 => 75 | 10 => 124 | n => n, fun | 23 => 153 | 26 => 9 | 3 => 9 | 28 => 151 | 0 => 0 | 27 => 150 | 33 => 228 | 4 => 4 | n => n, fun | n => n⟩
theorem keysD : Go.Proofs.SlLaysZ.n7 Tryz.prog keysD_ren where
  mixed := by kernel_rfl
  f7 := ⟨ "maps.Keys[map[string]string,string,string]", by decide, Tryz.func75.trans (congrArg some (by kernel_rfl))⟩
  f10 := ⟨ "maps.Keys[map[string]string,string,string]$1", by decide, Tryz.func124.trans (congrArg some (by kernel_rfl))⟩
  t0 := Tryz.underlying0
  a0 := Tryz.isAgg0
  z0 := Tryz.sizeOf0
  v0 := Tryz.zeroValue0
  t4 := Tryz.underlying4
  a4 := Tryz.isAgg4
  z4 := Tryz.sizeOf4
  v4 := Tryz.zeroValue4
  t23 := Tryz.underlying153
  a23 := Tryz.isAgg153
  z23 := Tryz.sizeOf153
  v23 := Tryz.zeroValue153
  t26 := Tryz.underlying9
  a26 := Tryz.isAgg9
  z26 := Tryz.sizeOf9
  v26 := Tryz.zeroValue9
  t27 := Tryz.underlying150
  a27 := Tryz.isAgg150
  z27 := Tryz.sizeOf150
  v27 := Tryz.zeroValue150
  t28 := Tryz.underlying151
  a28 := Tryz.isAgg151
  z28 := Tryz.sizeOf151
  v28 := Tryz.zeroValue151
  t33 := Tryz.underlying228
  a33 := Tryz.isAgg228
  z33 := Tryz.sizeOf228
  v33 := Tryz.zeroValue228
def sortedD_ren : Go.Shelf.Ren := ⟨fun | 6 => 74 | 8 => 122 | 9 => 123 | 11 => 174 | 13 => 176 | 12 => 175 | 23 => 221 | 24 => 222 | 14 => 212 | 15 => 213 | 16 => 214 | 17 => 215 | 18 => 216 | 19 => 217 | 20 => 218 | 21 => 219 | 22 => 220 | 25 => 249 | 26 => 250 | 27 => 251 | 28 => 252 | 29 => 253 | 30 => 254 | 31 => 267 | n => n, fun | 26 => 9 | 28 => 151 | 24 => 148 | 0 => 0 | 3 => 3 | 37 => 264 | 48 => 295 | 50 => 315 | 4 => 4 | 40 => 306 | 39 => 305 | 45 => 311 | 5 => 5 | 9 => 9 | 51 => 332 | 55 => 336 | 57 => 351 | 58 => 289 | 33 => 228 | n => n, fun | n => n⟩
theorem sortedD : Go.Proofs.SlLaysZ.n6 Tryz.prog sortedD_ren where
  mixed := by kernel_rfl
  f6 := ⟨ "slices.Sorted[string]", by decide, Tryz.func74.trans (congrArg some (by kernel_rfl))⟩
  f8 := ⟨ "slices.Collect[string]", by decide, Tryz.func122.trans (congrArg some (by kernel_rfl))⟩
  f11 := ⟨ "slices.AppendSeq[[]string,string]", by decide, Tryz.func174.trans (congrArg some (by kernel_rfl))⟩
  t0 := Tryz.underlying0
  a0 := Tryz.isAgg0
  z0 := Tryz.sizeOf0
  v0 := Tryz.zeroValue0
  t24 := Tryz.underlying148
  a24 := Tryz.isAgg148
  z24 := Tryz.sizeOf148
  v24 := Tryz.zeroValue148
  t26 := Tryz.underlying9
  a26 := Tryz.isAgg9
  z26 := Tryz.sizeOf9
  v26 := Tryz.zeroValue9
  t28 := Tryz.underlying151
  a28 := Tryz.isAgg151
  z28 := Tryz.sizeOf151
  v28 := Tryz.zeroValue151
  i26 := by kernel_rfl
def sortD_ren : Go.Shelf.Ren := ⟨fun | 6 => 123 | 8 => 176 | 9 => 175 | 19 => 221 | 20 => 222 | 21 => 212 | 22 => 213 | 23 => 214 | 24 => 215 | 25 => 216 | 26 => 217 | 27 => 218 | 28 => 219 | 29 => 220 | 36 => 249 | 31 => 250 | 32 => 251 | 37 => 252 | 38 => 253 | 39 => 254 | 41 => 267 | n => n, fun | 27 => 148 | 29 => 9 | 3 => 3 | 32 => 264 | 26 => 148 | 0 => 0 | 44 => 295 | 46 => 315 | 4 => 4 | 36 => 306 | 35 => 305 | 41 => 311 | 5 => 5 | 9 => 9 | 53 => 332 | 57 => 336 | 63 => 351 | 64 => 289 | n => n, fun | n => n⟩
theorem sortD : Go.Proofs.SlLaysM.n6 Tryz.prog sortD_ren where
  mixed := by kernel_rfl
  f6 := ⟨ "slices.Sort[[]string,string]", by decide, Tryz.func123.trans (congrArg some (by kernel_rfl))⟩
  f8 := Tryz.func176.trans (congrArg some (by kernel_rfl))
  f9 := ⟨ "slices.pdqsortOrdered[string]", by decide, Tryz.func175.trans (congrArg some (by kernel_rfl))⟩
  f19 := Tryz.func221.trans (congrArg some (by kernel_rfl))
  f20 := Tryz.func222.trans (congrArg some (by kernel_rfl))
  f21 := ⟨ "slices.insertionSortOrdered[string]", by decide, Tryz.func212.trans (congrArg some (by kernel_rfl))⟩
  f22 := ⟨ "slices.heapSortOrdered[string]", by decide, Tryz.func213.trans (congrArg some (by kernel_rfl))⟩
  f23 := ⟨ "slices.breakPatternsOrdered[string]", by decide, Tryz.func214.trans (congrArg some (by kernel_rfl))⟩
  f24 := ⟨ "slices.choosePivotOrdered[string]", by decide, Tryz.func215.trans (congrArg some (by kernel_rfl))⟩
  f25 := ⟨ "slices.reverseRangeOrdered[string]", by decide, Tryz.func216.trans (congrArg some (by kernel_rfl))⟩
  f26 := ⟨ "slices.partialInsertionSortOrdered[string]", by decide, Tryz.func217.trans (congrArg some (by kernel_rfl))⟩
  f27 := ⟨ "cmp.Less[string]", by decide, Tryz.func218.trans (congrArg some (by kernel_rfl))⟩
  f28 := ⟨ "slices.partitionEqualOrdered[string]", by decide, Tryz.func219.trans (congrArg some (by kernel_rfl))⟩
  f29 := ⟨ "slices.partitionOrdered[string]", by decide, Tryz.func220.trans (congrArg some (by kernel_rfl))⟩
  f31 := Tryz.func250.trans (congrArg some (by kernel_rfl))
  f32 := Tryz.func251.trans (congrArg some (by kernel_rfl))
  f36 := ⟨ "slices.siftDownOrdered[string]", by decide, Tryz.func249.trans (congrArg some (by kernel_rfl))⟩
  f37 := ⟨ "slices.medianAdjacentOrdered[string]", by decide, Tryz.func252.trans (congrArg some (by kernel_rfl))⟩
  f38 := ⟨ "slices.medianOrdered[string]", by decide, Tryz.func253.trans (congrArg some (by kernel_rfl))⟩
  f39 := ⟨ "cmp.isNaN[string]", by decide, Tryz.func254.trans (congrArg some (by kernel_rfl))⟩
  f41 := ⟨ "slices.order2Ordered[string]", by decide, Tryz.func267.trans (congrArg some (by kernel_rfl))⟩
  t0 := Tryz.underlying0
  a0 := Tryz.isAgg0
  z0 := Tryz.sizeOf0
  v0 := Tryz.zeroValue0
  t3 := Tryz.underlying3
  a3 := Tryz.isAgg3
  z3 := Tryz.sizeOf3
  v3 := Tryz.zeroValue3
  t4 := Tryz.underlying4
  a4 := Tryz.isAgg4
  z4 := Tryz.sizeOf4
  v4 := Tryz.zeroValue4
  t5 := Tryz.underlying5
  a5 := Tryz.isAgg5
  z5 := Tryz.sizeOf5
  v5 := Tryz.zeroValue5
  t9 := Tryz.underlying9
  a9 := Tryz.isAgg9
  z9 := Tryz.sizeOf9
  v9 := Tryz.zeroValue9
  t26 := Tryz.underlying148
  a26 := Tryz.isAgg148
  z26 := Tryz.sizeOf148
  v26 := Tryz.zeroValue148
  t27 := Tryz.underlying148
  a27 := Tryz.isAgg148
  z27 := Tryz.sizeOf148
  v27 := Tryz.zeroValue148
  t29 := Tryz.underlying9
  a29 := Tryz.isAgg9
  z29 := Tryz.sizeOf9
  v29 := Tryz.zeroValue9
  t32 := Tryz.underlying264
  a32 := Tryz.isAgg264
  z32 := Tryz.sizeOf264
  v32 := Tryz.zeroValue264
  t35 := Tryz.underlying305
  a35 := Tryz.isAgg305
  z35 := Tryz.sizeOf305
  v35 := Tryz.zeroValue305
  t36 := Tryz.underlying306
  a36 := Tryz.isAgg306
  z36 := Tryz.sizeOf306
  v36 := Tryz.zeroValue306
  t41 := Tryz.underlying311
  a41 := Tryz.isAgg311
  z41 := Tryz.sizeOf311
  v41 := Tryz.zeroValue311
  t44 := Tryz.underlying295
  a44 := Tryz.isAgg295
  z44 := Tryz.sizeOf295
  v44 := Tryz.zeroValue295
  t46 := Tryz.underlying315
  a46 := Tryz.isAgg315
  z46 := Tryz.sizeOf315
  v46 := Tryz.zeroValue315
  t53 := Tryz.underlying332
  a53 := Tryz.isAgg332
  z53 := Tryz.sizeOf332
  v53 := Tryz.zeroValue332
  t57 := Tryz.underlying336
  a57 := Tryz.isAgg336
  z57 := Tryz.sizeOf336
  v57 := Tryz.zeroValue336
  t63 := Tryz.underlying351
  a63 := Tryz.isAgg351
  z63 := Tryz.sizeOf351
  v63 := Tryz.zeroValue351
  t64 := Tryz.underlying289
  a64 := Tryz.isAgg289
  z64 := Tryz.sizeOf289
  v64 := Tryz.zeroValue289

theorem MKeys_c (m : Nat) (I : Gh) (R : List HP) (w : World) (S : Sat w I (R)) : Ret Tryz.prog 75 [.map (some m)] w fun v w' => ∃ g : Nat, .func (.func 124) #[] [ptr g].toArray = v ∧ Sat w' I (Blk g 153 [.map (some m)] :: R) := by
  have hc := AnyZ.keys_in keysD Fence.wide 5 trivial rfl (some m) w
  refine Calls.mono (callsIn_wide.1 hc) ?_
  rintro e w' ⟨rfl, rfl⟩
  exact ⟨_, rfl, w.heap.size, rfl, S.newB ((Below.refl _ _).alloc (Nat.le_refl _) _) (Go.MapKept.heap_alloc w _).1 rfl⟩

theorem sortsD (n : Nat) : AnyZ.SortsIn Tryz.prog sortedD_ren Fence.wide n :=
  ⟨fun blk off cap ss W hH hblk hsz => callsIn_wide.2 (AnyM.slices_Sort_string sortD blk off cap ss W hH hblk hsz), fun p cap W => callsIn_wide.2 (AnyM.slices_Sort_string_none sortD p cap W)⟩
theorem SSorted_c (g : Nat) (m : Nat) (K : List Doc) (I : Gh) (R : List HP) (w : World) (S : Sat w I (Blk g 153 [.map (some m)] :: Md Tryz.prog 9 m K :: R)) (hK : K.length ≤ 1000000) (hKn : ∀ d ∈ K, d.1.length ≤ 1000000 ∧ d.2.length ≤ 1000000) : Ret Tryz.prog 74 [.func (.func 124) #[] [ptr g].toArray] w fun v w' => ∃ v1 : Value, v1 = v ∧ Sat w' I (OwnX 9 strR v1 (K.map Prod.fst) :: Blk g 153 [.map (some m)] :: Md Tryz.prog 9 m K :: R) := by
  obtain ⟨arr, clock, hb, hM⟩ := S.md 1 rfl
  have hri := hM.rising Tryz.underlying9
  have hcell : w.cell? ⟨g, 0, none⟩ = some (.map (some m)) := (S.arr 0 rfl).cell rfl
  have hg : g < w.heap.size := (S.arr 0 rfl).lt
  have hown : w.ownsMap Tryz.prog 9 (plainElem (H := Unit) Tryz.prog 9) m K.length (.map (K.map encD)) := ⟨arr, clock, hb, hM.1, by rw [hM.len]; exact Nat.le_refl _, by rw [hM.2]⟩
  have hsz : Maps.size (DataW.map (K.map encD)) = K.length := by simp [Maps.size_eq]
  have hseq : SeqGives Fence.wide 2 Tryz.prog 124 #[.pointer (some ⟨g, 0, none⟩)] encStr (fun ss => ss.Perm (strKeys (DataW.map (K.map encD)))) (Maps.size (DataW.map (K.map encD))) w :=
    AnyZ.keys_gives (ρ := keysD_ren) { keysD with } Fence.wide _ trivial rfl (by omega) g m K.length _ w hg hcell hown
  have hc := AnyZ.sorted_in sortedD Fence.wide 5 trivial trivial trivial trivial rfl (by omega) (sortsD _) (enters_of Tryz.func123 (by kernel_rfl) rfl) 124 #[.pointer (some ⟨g, 0, none⟩)] trivial (enters_of Tryz.func124 (by kernel_rfl) rfl) _ _ (by rw [hsz]; exact Nat.le_trans hK (by decide)) (by rw [hsz]; omega) w hseq
  refine Calls.mono (callsIn_wide.1 hc) ?_
  rintro e w' ⟨v, ss, rfl, hp, hrow, _, hbl⟩
  rw [keys_enc] at hp
  rw [rising_sort hri hp] at hrow
  have hl : ss.length = (K.map Prod.fst).length := hp.length_eq
  exact ⟨v, rfl, v, rfl, S.newS hbl hrow hl (fun s hs => by obtain ⟨d, hd, rfl⟩ := List.mem_map.1 hs; exact (hKn d hd).1)⟩

theorem DocsP.rising {w : World} {I : Gh} {R : List HP} {p : Value} {K : List Doc} (S : Sat w I (DocsP p K :: R)) : RiseD K := by
  obtain ⟨b, m, rfl, S2⟩ := DocsP.opn S; exact S2.rising 1 rfl Tryz.underlying9

end Go.Proofs.YtanpinfhlbbjkaaGreat

set_option maxRecDepth 100000
set_option maxHeartbeats 4000000
namespace Go.Proofs.YtanpinfhlbbjkaaGreat
open Go.RowKit Go.Ecal
def docR : Rep Doc := ⟨2, fun I cs a => ∃ v0 v1, cs = [v0, v1] ∧ (v0.oneCell' = true ∧ RoB I v0 a.1) ∧ (v1.oneCell' = true ∧ RoB I v1 a.2), fun k h => by obtain ⟨v0, v1, rfl, ⟨o0, h0⟩, ⟨o1, h1⟩⟩ := h; exact ⟨v0, v1, rfl, ⟨o0, h0.up k⟩, ⟨o1, h1.up k⟩⟩,
  fun h => by obtain ⟨v0, v1, rfl, ⟨o0, h0⟩, ⟨o1, h1⟩⟩ := h; rfl, fun h u hu => by
    obtain ⟨v0, v1, rfl, ⟨o0, h0⟩, ⟨o1, h1⟩⟩ := h
    simp only [List.mem_cons, List.not_mem_nil, or_false] at hu
    rcases hu with rfl | rfl <;> first | rfl | assumption⟩
theorem DAll_c (q : Value) (K : List Doc) (I : Gh) (R : List HP) (w : World) (S : Sat w I (DocsP q K :: R)) (hK : K.length ≤ 1000000) (hKn : ∀ d ∈ K, d.1.length ≤ 1000000 ∧ d.2.length ≤ 1000000) : Ret Tryz.prog 30 [q] w fun v w' => ∃ v1 : Value, ∃ J : Gh, Gh.le I J ∧ v1 = v ∧ Sat w' J (OwnX 157 docR v1 K :: DocsP q K :: R) := by
  obtain ⟨b, m, rfl, S0⟩ := DocsP.opn S
  have hri := S0.rising 1 rfl U9
  have hml : (K.map Prod.fst).length = K.length := List.length_map _
  refine ret_E Tryz.func30 rfl Tryz.ntmps30 (by simp) ?_
  refine g17 ?_
  refine yR (MKeys_c m _ _ _ S0) ?_
  rintro _ w0 ⟨g13, rfl, S1⟩
  refine yR (SSorted_c _ _ _ _ _ _ S1.fr2.fr1 au au) ?_
  rintro _ w1 ⟨v0, rfl, S2⟩
  refine vl _ rfl (r_lenX rfl (OwnX.row S2 0 rfl (by decide)).1 U148) ?_
  refine g4 ?_
  have S3 : Sat _ _ (OwnX 157 docR (.slice none 0 0) [] :: _) := OwnX.nil S2 157 docR
  have q0 : [] = K.take 0 := by simp
  have S4 := S3.ax0 q0
  refine EC_loop (fun m' E' w' => ∃ j : Nat, ∃ ov : Value, ∃ J : Gh, m' = K.length - j ∧ E' 13 = .int .i64 (j : Int) ∧ E' 3 = ov ∧ E' 0 = ptr b ∧ E' 2 = .slice none 0 0 ∧ E' 11 = v0 ∧ E' 12 = .int .i64 ((K.map Prod.fst).length : Int) ∧ (j ≤ K.length) ∧ Gh.le I J ∧ Sat w' J (OwnX 157 docR ov (K.take j) :: OwnX 9 strR v0 (K.map Prod.fst) :: Blk g13 153 [.map (some m)] :: Md Tryz.prog 9 m K :: Blk b 155 [.map (some m)] :: R)) _ ⟨0, .slice none 0 0, I, rfl, rfl, rfl, rfl, rfl, rfl, rfl, Nat.zero_le _, (Gh.le_refl _), S4⟩ ?_
  rintro _ E0 w2 ⟨j, ov, I0, rfl, e0, e1, e2, e3, e4, e5, hj, le0, S5⟩
  refine g6 ?_
  refine EC_if rfl (fun h0 => ?_) (fun h0 => ?_)
  refine g6 ?_
  refine vl (ptr (blkOf v0) (offOf v0 + ((j : Int) : Int).toNat * 1)) rfl (r_indexX (by exact e4) (OwnX.row S5 1 rfl (by decide)).1 (by exact e0) (by omega) as' U148 (by kernel_rfl)) ?_
  obtain ⟨d0, hd0⟩ := get_some (l := K) (j := ((j : Int) : Int).toNat) (by omega)
  have hdn := hKn d0 (List.mem_of_getElem? hd0)
  have hlk := rising_lk hri hd0
  have hlv : ((lkD K d0.1).getD []).length ≤ 1000000 := by rw [hlk]; exact hdn.2
  obtain ⟨d1, hd1⟩ := get_some (l := K) (j := ((j : Int) : Int).toNat) (by omega)
  have hdn := hKn d1 (List.mem_of_getElem? hd1)
  have hlk := rising_lk hri hd1
  have hlv : ((lkD K d1.1).getD []).length ≤ 1000000 := by rw [hlk]; exact hdn.2
  have ha0 : (K.map Prod.fst)[((j : Int) : Int).toNat]? = some d1.1 := by rw [List.getElem?_map, hd1]; rfl
  obtain ⟨cs0, hc0, he0⟩ := (OwnX.row S5 1 rfl (by decide)).2 _ _ ha0
  obtain ⟨rfl, r0⟩ := hc0
  refine vl _ rfl (r_load0 rfl he0 U9 rfl) ?_
  refine g6 ?_
  refine EL_bytes (l := d1.1) rfl rfl U9 U26 U5 (by first | omega | (simp; omega)) ?_
  intro v2 w3 B0 V0 R0 V46l
  obtain ⟨I1, le1, S6, H0⟩ := S5.newR B0 V0 R0 V46l
  refine g5 ?_
  obtain ⟨ar0, ck0, hm0, hK0⟩ := S6.md 3 rfl
  refine vl (.string (str ((lkD K d1.1).getD []))) rfl ((r_lookD2 U9 U153 (by kernel_rfl) rfl rfl hm0 hK0 (by first | assumption | omega | (simp; omega))).2) ?_
  refine EL_bytes (l := (lkD K d1.1).getD []) rfl rfl U9 U26 U5 (by first | omega | (simp; omega)) ?_
  intro v3 w4 B1 V1 R1 V59l
  obtain ⟨I2, le2, S7, H1⟩ := S6.newR B1 V1 R1 V59l
  refine vl _ rfl (gB [v2, v3] st_157 (parts2 rfl rfl) (fill_one rfl (row_cells (H0 _ (lT le2 S7.le))) rfl (fill_one rfl (row_cells (H1 _ S7.le)) rfl fill_end))) ?_
  refine EL_litW (z := #[.slice none 0 0, .slice none 0 0]) (cs := ([v2, v3]).toArray) (sz := 2) (l := [(0, .agg ([v2, v3]).toArray)]) rfl U73 (by kernel_rfl) (parts1 rfl) (by kernel_rfl) rfl (by decide) ?_
  intro v4 w5 O0 B2 k0
  have S8 : Sat _ _ (OwnX 157 docR v4 [(⟨d1.1, (lkD K d1.1).getD []⟩ : Doc)] :: _) := OwnX.cls (xss := [[v2, v3]]) (.cons ⟨v2, v3, rfl, ⟨(row_one (H0 _ (lT le2 S7.le))), (H0.up le2)⟩, ⟨(row_one (H1 _ S7.le)), H1⟩⟩ .nil) (S7.newO B2 O0)
  have oH77 := (OwnX.one S8 0 rfl (by decide))
  obtain ⟨I3, le3, S9, H2⟩ := S8.fx0 (by decide)
  refine EL_appX (z := (.agg #[.slice none 0 0, .slice none 0 0])) (bytes := 48) rfl U73 (by kernel_rfl) rfl (by decide) rfl rfl S9 H2 ac ac ?_
  intro v5 w6 S10
  refine g5 ?_
  refine EL_int ((j : Int) + 1) rfl (r_addi (by exact e0) rfl (by omega)) ?_
  intro x0 hx78
  refine g3 ?_
  have q1 : (K.take j) ++ [(⟨d1.1, (lkD K d1.1).getD []⟩ : Doc)] = K.take (j + 1) := by rw [hlk, List.take_add_one, (show K[j]? = _ from hd1)]; rfl
  have S11 := S10.ax0 q1
  refine ⟨_, ?_, j + 1, v5, I3, rfl, (Eq.trans (show _ = Value.int .i64 x0 from rfl) (congrArg _ (by omega))), rfl, (by exact e2), (by exact e3), (by exact e4), (by exact e5), by omega, (lT (lT (lT le0 le1) le2) le3), S11⟩
  first | omega | (simp; omega)
  refine g12 ?_
  refine f1 Tryz.results30 ?_
  have q2 : K.take j = K := by rw [List.take_of_length_le (by omega)]
  have S12 := S5.ax0 q2
  have S13 : Sat _ _ (DocsP (ptr b) K :: _) := DocsP.cls S12.fr3.fr4
  exact ⟨ov, I0, le0, rfl, S13.dr2.dr2.fr1⟩

end Go.Proofs.YtanpinfhlbbjkaaGreat
