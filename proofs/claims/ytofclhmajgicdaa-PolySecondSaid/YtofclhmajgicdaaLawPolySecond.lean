/-
  The second half of the key is only added: the tags of one text under two keys of one first half differ by what their second halves do, modulo 2^128; of no text the tag is that half.
  Its conditions: none: whatever the input, in whatever memory.
-/
import Derived.Test.YtofclhmajgicdaaRows
import Derived.Test.YtofclhmajgicdaaWalksJ
import Derived.ProofKit
import Derived.OpenShut
import Derived.ShutString
import Derived.ChangeOld
set_option linter.unusedVariables false
set_option linter.unusedSimpArgs false
namespace Go.Proofs.Ytofclhmajgicdaa.polySecond
open Go.ChangeShapes Go.WideShapes Go.ChangeAt Go.RowKit Go.Ecal
open Go.ChangeMaps (open_string shut_string)
set_option maxRecDepth 100000 in
set_option maxHeartbeats 4000000 in
theorem PolySecond_c (f : List UInt8) (a : List UInt8) (b : List UInt8) (v1 : Value) (t : List UInt8) (w : World) (hf : f.length = 16) (ha : a.length = 16) (hb : b.length = 16) (H1 : Bs w v1 t) : Ret Try.prog 5 [.agg (f.map byt).toArray, .agg (a.map byt).toArray, .agg (b.map byt).toArray, v1] w fun v w' => v = .bool true ∧ Below w.heap.size w w' := by
  obtain ⟨SS, hSS⟩ : ∃ z, z = accS (cl (num f)) 0 t := ⟨_, rfl⟩
  refine ret_E Try.func5 rfl Try.ntmps5 (by simp) ?_
  refine EC_seq ?_
  refine EC_reg ?_
  refine EL_box (f.map byt) rfl rfl rfl ?_
  intro b11 w12 k13 A14 B15 z16
  have B18 : Below w.heap.size w w12 := B15
  have R17 : Bs w12 (.slice (some ⟨b11, 0, none⟩) 16 16) f := barr_row A14 (by omega) (by decide)
  refine EL_box (a.map byt) rfl rfl rfl ?_
  intro b19 w20 k21 A22 B23 z24
  have B26 : Below w.heap.size w w20 := below_full B18 B18.size B23
  have B27 : Below w12.heap.size w12 w20 := B23
  have R25 : Bs w20 (.slice (some ⟨b19, 0, none⟩) 16 16) a := barr_row A22 (by omega) (by decide)
  refine EL_box (b.map byt) rfl rfl rfl ?_
  intro b28 w29 k30 A31 B32 z33
  have B35 : Below w.heap.size w w29 := below_full B26 B26.size B32
  have B36 : Below w12.heap.size w12 w29 := below_full B27 B27.size B32
  have B37 : Below w20.heap.size w20 w29 := B32
  have R34 : Bs w29 (.slice (some ⟨b28, 0, none⟩) 16 16) b := barr_row A31 (by omega) (by decide)
  refine EL_val (.bool false) w29 rfl (r_assign rfl) ?_
  refine EL_nil ?_
  refine thn_n ?_
  refine EC_seq ?_
  refine EC_seq ?_
  refine EC_reg ?_
  refine EL_ret [] rfl Try.func9 rfl nm9 rfl (anchor_c w29) ?_
  rintro _ w38 ⟨rfl, B39⟩
  have B40 : Below w.heap.size w w38 := below_full B35 B35.size B39
  have B41 : Below w12.heap.size w12 w38 := below_full B36 B36.size B39
  have B42 : Below w20.heap.size w20 w38 := below_full B37 B37.size B39
  have B43 : Below w29.heap.size w29 w38 := B39
  refine EL_val (.bool false) w38 rfl (r_dec (show (!true) = false from rfl) (r_not rfl)) ?_
  refine EL_nil ?_
  refine thn_n ?_
  refine EC_cond_false rfl ?_
  refine EC_skip ?_
  refine thn_n ?_
  refine EC_seq ?_
  refine EC_seq ?_
  refine EC_reg ?_
  refine EL_val v1 w38 rfl (r_move rfl) ?_
  refine EL_val (.int .i64 (t.length : Int)) w38 rfl (lenB (r_len rfl (H1.below B40) Try.underlying22)) ?_
  refine EL_val (.bool (decide (300 < (t.length : Int)))) w38 rfl (r_gtr rfl rfl) ?_
  refine EL_nil ?_
  refine thn_n ?_
  refine EC_if (p := 300 < (t.length : Int)) rfl (fun h44 => ?_) (fun h44 => ?_)
  · refine EC_seq ?_
    refine EC_reg ?_
    refine EL_val (.bool true) w38 rfl (r_assign rfl) ?_
    refine EL_nil ?_
    refine thn_n ?_
    refine EC_ret ?_
    refine thn_r ?_
    refine fin1 Try.results5 (show _ = .bool true from rfl) ⟨_, rfl, ?_⟩
    exact ⟨rfl, B40⟩
  · refine EC_skip ?_
    refine thn_n ?_
    refine EC_seq ?_
    refine EC_until 6 (by kernel_rfl) ?_
    intro w45 B46 z47
    have B48 : Below w.heap.size w w45 := below_full B40 B40.size B46
    have B49 : Below w12.heap.size w12 w45 := below_full B41 B41.size B46
    have B50 : Below w20.heap.size w20 w45 := below_full B42 B42.size B46
    have B51 : Below w29.heap.size w29 w45 := below_full B43 B43.size B46
    have B52 : Below w38.heap.size w38 w45 := B46
    refine EH_take 1 rfl (by kernel_rfl) (by kernel_rfl) (by kernel_rfl) rfl 40 (by kernel_rfl) (.slice (some ⟨b11, 0, none⟩) 16 16) rfl (fun _ hw => r_sliceA rfl Try.underlying30 (by kernel_rfl)) (Below.refl _ _) ?_
    refine EH_take 3 rfl (by kernel_rfl) (by kernel_rfl) (by kernel_rfl) rfl 40 (by kernel_rfl) (.slice (some ⟨b19, 0, none⟩) 16 16) rfl (fun _ hw => r_sliceA rfl Try.underlying30 (by kernel_rfl)) (Below.refl _ _) ?_
    refine EH_take 5 rfl (by kernel_rfl) (by kernel_rfl) (by kernel_rfl) rfl 40 (by kernel_rfl) v1 rfl (fun _ hw => r_move rfl) (Below.refl _ _) ?_
    refine EH_one 0 (by kernel_rfl) ⟨_, rfl, ?_⟩
    refine EL_lit w45.heap.size #[] elB rfl (by decide) rfl (Nat.le_refl _) (by kernel_rfl) ?_
    intro v53 w54 O55 B56 k57 z58
    have B59 : Below w.heap.size w w54 := below_full B48 B48.size B56
    have B60 : Below w12.heap.size w12 w54 := below_full B49 B49.size B56
    have B61 : Below w20.heap.size w20 w54 := below_full B50 B50.size B56
    have B62 : Below w29.heap.size w29 w54 := below_full B51 B51.size B56
    have B63 : Below w38.heap.size w38 w54 := below_full B52 B52.size B56
    have B64 : Below w45.heap.size w45 w54 := B56
    have O55' := own_eq (l := ([] : List UInt8)) O55 (by simp [bof_val, byt])
    refine EL_nil ?_
    refine ⟨rfl, .inr B64, ?_⟩
    refine EH_one 2 (by kernel_rfl) ⟨_, rfl, ?_⟩
    refine EL_append (v := v53) (xs := ([] : List UInt8).map byt) (ys := f.map byt) w45.heap.size elB rfl rfl rfl (by simpa using O55') (R17.below B60) (byt_one _) (by first | (simp only [List.length_map, List.length_nil]; omega) | (simp; done) | (simp; omega)) (by decide) B64.size ?_
    intro v65 w66 O67 G68 A69
    have O67' := own_app O67
    have B70 : Below w.heap.size w w66 := below_grew B59 G68 O55' B48.size (B59.size)
    have B71 : Below w12.heap.size w12 w66 := below_grew B60 G68 O55' B49.size (B60.size)
    have B72 : Below w20.heap.size w20 w66 := below_grew B61 G68 O55' B50.size (B61.size)
    have B73 : Below w29.heap.size w29 w66 := below_grew B62 G68 O55' B51.size (B62.size)
    have B74 : Below w38.heap.size w38 w66 := below_grew B63 G68 O55' B52.size (B63.size)
    have B75 : Below w45.heap.size w45 w66 := below_grew B64 G68 O55' (Nat.le_refl _) (B64.size)
    refine EL_nil ?_
    refine ⟨rfl, .inr B75, ?_⟩
    refine EH_one 4 (by kernel_rfl) ⟨_, rfl, ?_⟩
    refine EL_append (v := v65) (xs := (([] : List UInt8) ++ f).map byt) (ys := a.map byt) w45.heap.size elB rfl rfl rfl (by simpa using O67') (R25.below B72) (byt_one _) (by first | (simp only [List.length_map, List.length_nil]; omega) | (simp; done) | (simp; omega)) (by decide) B75.size ?_
    intro v77 w78 O79 G80 A81
    have O79' := own_app O79
    have B82 : Below w.heap.size w w78 := below_grew B70 G80 O67' B48.size (B70.size)
    have B83 : Below w12.heap.size w12 w78 := below_grew B71 G80 O67' B49.size (B71.size)
    have B84 : Below w20.heap.size w20 w78 := below_grew B72 G80 O67' B50.size (B72.size)
    have B85 : Below w29.heap.size w29 w78 := below_grew B73 G80 O67' B51.size (B73.size)
    have B86 : Below w38.heap.size w38 w78 := below_grew B74 G80 O67' B52.size (B74.size)
    have B87 : Below w45.heap.size w45 w78 := below_grew B75 G80 O67' (Nat.le_refl _) (B75.size)
    refine EL_nil ?_
    refine ⟨rfl, .inr B87, ?_⟩
    refine EH_one 6 (by kernel_rfl) ⟨_, rfl, ?_⟩
    have L92 := tag_len ((([] : List UInt8) ++ f) ++ a) t
    refine EL_ret [v77, v1] rfl Try.func10 rfl nm10 rfl (Tag_ok v77 ((([] : List UInt8) ++ f) ++ a) v1 t w78 (own_row O79') (H1.below B82) (by first | omega | (simp; done) | (simp; omega))) ?_
    rintro _ w93 ⟨p89, rfl, O90, B91⟩
    have B94 : Below w.heap.size w w93 := below_full B82 B82.size B91
    have B95 : Below w12.heap.size w12 w93 := below_full B83 B83.size B91
    have B96 : Below w20.heap.size w20 w93 := below_full B84 B84.size B91
    have B97 : Below w29.heap.size w29 w93 := below_full B85 B85.size B91
    have B98 : Below w38.heap.size w38 w93 := below_full B86 B86.size B91
    have B99 : Below w45.heap.size w45 w93 := below_full B87 B87.size B91
    have B100 : Below w78.heap.size w78 w93 := B91
    refine EL_nil ?_
    refine ⟨rfl, .inl (by kernel_rfl), ?_⟩
    refine EH_float 7 rfl (by kernel_rfl) (by kernel_rfl) (by kernel_rfl) rfl (.inl (by kernel_rfl)) (.tuple #[p89, .int .i64 0]) rfl (fun _ => r_move rfl) ?_
    refine EH_float 8 rfl (by kernel_rfl) (by kernel_rfl) (by kernel_rfl) rfl (.inl (by kernel_rfl)) p89 rfl (fun _ => r_extract rfl rfl) ?_
    refine EH_float 9 rfl (by kernel_rfl) (by kernel_rfl) (by kernel_rfl) rfl (.inl (by kernel_rfl)) (.int .i64 0) rfl (fun _ => r_extract rfl rfl) ?_
    refine EH_float 10 rfl (by kernel_rfl) (by kernel_rfl) (by kernel_rfl) rfl (.inl (by kernel_rfl)) p89 rfl (fun _ => r_assign rfl) ?_
    refine EH_float 11 rfl (by kernel_rfl) (by kernel_rfl) (by kernel_rfl) rfl (.inl (by kernel_rfl)) (.int .i64 0) rfl (fun _ => r_assign rfl) ?_
    refine EH_done (by kernel_rfl) ?_
    refine thn_n ?_
    refine EC_seq ?_
    refine EC_until 6 (by kernel_rfl) ?_
    intro w101 B102 z103
    have B104 : Below w.heap.size w w101 := below_full B94 B94.size B102
    have B105 : Below w12.heap.size w12 w101 := below_full B95 B95.size B102
    have B106 : Below w20.heap.size w20 w101 := below_full B96 B96.size B102
    have B107 : Below w29.heap.size w29 w101 := below_full B97 B97.size B102
    have B108 : Below w38.heap.size w38 w101 := below_full B98 B98.size B102
    have B109 : Below w45.heap.size w45 w101 := below_full B99 B99.size B102
    have B110 : Below w78.heap.size w78 w101 := below_full B100 B100.size B102
    have B111 : Below w93.heap.size w93 w101 := B102
    refine EH_take 1 rfl (by kernel_rfl) (by kernel_rfl) (by kernel_rfl) rfl 40 (by kernel_rfl) (.slice (some ⟨b11, 0, none⟩) 16 16) rfl (fun _ hw => r_sliceA rfl Try.underlying30 (by kernel_rfl)) (Below.refl _ _) ?_
    refine EH_take 3 rfl (by kernel_rfl) (by kernel_rfl) (by kernel_rfl) rfl 40 (by kernel_rfl) (.slice (some ⟨b28, 0, none⟩) 16 16) rfl (fun _ hw => r_sliceA rfl Try.underlying30 (by kernel_rfl)) (Below.refl _ _) ?_
    refine EH_take 5 rfl (by kernel_rfl) (by kernel_rfl) (by kernel_rfl) rfl 40 (by kernel_rfl) v1 rfl (fun _ hw => r_move rfl) (Below.refl _ _) ?_
    refine EH_one 0 (by kernel_rfl) ⟨_, rfl, ?_⟩
    refine EL_lit w101.heap.size #[] elB rfl (by decide) rfl (Nat.le_refl _) (by kernel_rfl) ?_
    intro v112 w113 O114 B115 k116 z117
    have B118 : Below w.heap.size w w113 := below_full B104 B104.size B115
    have B119 : Below w12.heap.size w12 w113 := below_full B105 B105.size B115
    have B120 : Below w20.heap.size w20 w113 := below_full B106 B106.size B115
    have B121 : Below w29.heap.size w29 w113 := below_full B107 B107.size B115
    have B122 : Below w38.heap.size w38 w113 := below_full B108 B108.size B115
    have B123 : Below w45.heap.size w45 w113 := below_full B109 B109.size B115
    have B124 : Below w78.heap.size w78 w113 := below_full B110 B110.size B115
    have B125 : Below w93.heap.size w93 w113 := below_full B111 B111.size B115
    have B126 : Below w101.heap.size w101 w113 := B115
    have O114' := own_eq (l := ([] : List UInt8)) O114 (by simp [bof_val, byt])
    refine EL_nil ?_
    refine ⟨rfl, .inr B126, ?_⟩
    refine EH_one 2 (by kernel_rfl) ⟨_, rfl, ?_⟩
    refine EL_append (v := v112) (xs := ([] : List UInt8).map byt) (ys := f.map byt) w101.heap.size elB rfl rfl rfl (by simpa using O114') (R17.below B119) (byt_one _) (by first | (simp only [List.length_map, List.length_nil]; omega) | (simp; done) | (simp; omega)) (by decide) B126.size ?_
    intro v127 w128 O129 G130 A131
    have O129' := own_app O129
    have B132 : Below w.heap.size w w128 := below_grew B118 G130 O114' B104.size (B118.size)
    have B133 : Below w12.heap.size w12 w128 := below_grew B119 G130 O114' B105.size (B119.size)
    have B134 : Below w20.heap.size w20 w128 := below_grew B120 G130 O114' B106.size (B120.size)
    have B135 : Below w29.heap.size w29 w128 := below_grew B121 G130 O114' B107.size (B121.size)
    have B136 : Below w38.heap.size w38 w128 := below_grew B122 G130 O114' B108.size (B122.size)
    have B137 : Below w45.heap.size w45 w128 := below_grew B123 G130 O114' B109.size (B123.size)
    have B138 : Below w78.heap.size w78 w128 := below_grew B124 G130 O114' B110.size (B124.size)
    have B139 : Below w93.heap.size w93 w128 := below_grew B125 G130 O114' B111.size (B125.size)
    have B140 : Below w101.heap.size w101 w128 := below_grew B126 G130 O114' (Nat.le_refl _) (B126.size)
    refine EL_nil ?_
    refine ⟨rfl, .inr B140, ?_⟩
    refine EH_one 4 (by kernel_rfl) ⟨_, rfl, ?_⟩
    refine EL_append (v := v127) (xs := (([] : List UInt8) ++ f).map byt) (ys := b.map byt) w101.heap.size elB rfl rfl rfl (by simpa using O129') (R34.below B135) (byt_one _) (by first | (simp only [List.length_map, List.length_nil]; omega) | (simp; done) | (simp; omega)) (by decide) B140.size ?_
    intro v142 w143 O144 G145 A146
    have O144' := own_app O144
    have B147 : Below w.heap.size w w143 := below_grew B132 G145 O129' B104.size (B132.size)
    have B148 : Below w12.heap.size w12 w143 := below_grew B133 G145 O129' B105.size (B133.size)
    have B149 : Below w20.heap.size w20 w143 := below_grew B134 G145 O129' B106.size (B134.size)
    have B150 : Below w29.heap.size w29 w143 := below_grew B135 G145 O129' B107.size (B135.size)
    have B151 : Below w38.heap.size w38 w143 := below_grew B136 G145 O129' B108.size (B136.size)
    have B152 : Below w45.heap.size w45 w143 := below_grew B137 G145 O129' B109.size (B137.size)
    have B153 : Below w78.heap.size w78 w143 := below_grew B138 G145 O129' B110.size (B138.size)
    have B154 : Below w93.heap.size w93 w143 := below_grew B139 G145 O129' B111.size (B139.size)
    have B155 : Below w101.heap.size w101 w143 := below_grew B140 G145 O129' (Nat.le_refl _) (B140.size)
    refine EL_nil ?_
    refine ⟨rfl, .inr B155, ?_⟩
    refine EH_one 6 (by kernel_rfl) ⟨_, rfl, ?_⟩
    have L160 := tag_len ((([] : List UInt8) ++ f) ++ b) t
    refine EL_ret [v142, v1] rfl Try.func10 rfl nm10 rfl (Tag_ok v142 ((([] : List UInt8) ++ f) ++ b) v1 t w143 (own_row O144') (H1.below B147) (by first | omega | (simp; done) | (simp; omega))) ?_
    rintro _ w161 ⟨p157, rfl, O158, B159⟩
    have B162 : Below w.heap.size w w161 := below_full B147 B147.size B159
    have B163 : Below w12.heap.size w12 w161 := below_full B148 B148.size B159
    have B164 : Below w20.heap.size w20 w161 := below_full B149 B149.size B159
    have B165 : Below w29.heap.size w29 w161 := below_full B150 B150.size B159
    have B166 : Below w38.heap.size w38 w161 := below_full B151 B151.size B159
    have B167 : Below w45.heap.size w45 w161 := below_full B152 B152.size B159
    have B168 : Below w78.heap.size w78 w161 := below_full B153 B153.size B159
    have B169 : Below w93.heap.size w93 w161 := below_full B154 B154.size B159
    have B170 : Below w101.heap.size w101 w161 := below_full B155 B155.size B159
    have B171 : Below w143.heap.size w143 w161 := B159
    refine EL_nil ?_
    refine ⟨rfl, .inl (by kernel_rfl), ?_⟩
    refine EH_float 7 rfl (by kernel_rfl) (by kernel_rfl) (by kernel_rfl) rfl (.inl (by kernel_rfl)) (.tuple #[p157, .int .i64 0]) rfl (fun _ => r_move rfl) ?_
    refine EH_float 8 rfl (by kernel_rfl) (by kernel_rfl) (by kernel_rfl) rfl (.inl (by kernel_rfl)) p157 rfl (fun _ => r_extract rfl rfl) ?_
    refine EH_float 9 rfl (by kernel_rfl) (by kernel_rfl) (by kernel_rfl) rfl (.inl (by kernel_rfl)) (.int .i64 0) rfl (fun _ => r_extract rfl rfl) ?_
    refine EH_float 10 rfl (by kernel_rfl) (by kernel_rfl) (by kernel_rfl) rfl (.inl (by kernel_rfl)) p157 rfl (fun _ => r_assign rfl) ?_
    refine EH_float 11 rfl (by kernel_rfl) (by kernel_rfl) (by kernel_rfl) rfl (.inl (by kernel_rfl)) (.int .i64 0) rfl (fun _ => r_assign rfl) ?_
    refine EH_done (by kernel_rfl) ?_
    refine thn_n ?_
    refine EC_seq ?_
    refine EC_until 5 (by kernel_rfl) ?_
    intro w172 B173 z174
    have B175 : Below w.heap.size w w172 := below_full B162 B162.size B173
    have B176 : Below w12.heap.size w12 w172 := below_full B163 B163.size B173
    have B177 : Below w20.heap.size w20 w172 := below_full B164 B164.size B173
    have B178 : Below w29.heap.size w29 w172 := below_full B165 B165.size B173
    have B179 : Below w38.heap.size w38 w172 := below_full B166 B166.size B173
    have B180 : Below w45.heap.size w45 w172 := below_full B167 B167.size B173
    have B181 : Below w78.heap.size w78 w172 := below_full B168 B168.size B173
    have B182 : Below w93.heap.size w93 w172 := below_full B169 B169.size B173
    have B183 : Below w101.heap.size w101 w172 := below_full B170 B170.size B173
    have B184 : Below w143.heap.size w143 w172 := below_full B171 B171.size B173
    have B185 : Below w161.heap.size w161 w172 := B173
    refine EH_take 1 rfl (by kernel_rfl) (by kernel_rfl) (by kernel_rfl) rfl 40 (by kernel_rfl) (.slice (some ⟨b11, 0, none⟩) 16 16) rfl (fun _ hw => r_sliceA rfl Try.underlying30 (by kernel_rfl)) (Below.refl _ _) ?_
    refine EH_take 3 rfl (by kernel_rfl) (by kernel_rfl) (by kernel_rfl) rfl 40 (by kernel_rfl) (.slice (some ⟨b19, 0, none⟩) 16 16) rfl (fun _ hw => r_sliceA rfl Try.underlying30 (by kernel_rfl)) (Below.refl _ _) ?_
    refine EH_one 0 (by kernel_rfl) ⟨_, rfl, ?_⟩
    refine EL_lit w172.heap.size #[] elB rfl (by decide) rfl (Nat.le_refl _) (by kernel_rfl) ?_
    intro v186 w187 O188 B189 k190 z191
    have B192 : Below w.heap.size w w187 := below_full B175 B175.size B189
    have B193 : Below w12.heap.size w12 w187 := below_full B176 B176.size B189
    have B194 : Below w20.heap.size w20 w187 := below_full B177 B177.size B189
    have B195 : Below w29.heap.size w29 w187 := below_full B178 B178.size B189
    have B196 : Below w38.heap.size w38 w187 := below_full B179 B179.size B189
    have B197 : Below w45.heap.size w45 w187 := below_full B180 B180.size B189
    have B198 : Below w78.heap.size w78 w187 := below_full B181 B181.size B189
    have B199 : Below w93.heap.size w93 w187 := below_full B182 B182.size B189
    have B200 : Below w101.heap.size w101 w187 := below_full B183 B183.size B189
    have B201 : Below w143.heap.size w143 w187 := below_full B184 B184.size B189
    have B202 : Below w161.heap.size w161 w187 := below_full B185 B185.size B189
    have B203 : Below w172.heap.size w172 w187 := B189
    have O188' := own_eq (l := ([] : List UInt8)) O188 (by simp [bof_val, byt])
    refine EL_nil ?_
    refine ⟨rfl, .inr B203, ?_⟩
    refine EH_one 2 (by kernel_rfl) ⟨_, rfl, ?_⟩
    refine EL_append (v := v186) (xs := ([] : List UInt8).map byt) (ys := f.map byt) w172.heap.size elB rfl rfl rfl (by simpa using O188') (R17.below B193) (byt_one _) (by first | (simp only [List.length_map, List.length_nil]; omega) | (simp; done) | (simp; omega)) (by decide) B203.size ?_
    intro v204 w205 O206 G207 A208
    have O206' := own_app O206
    have B209 : Below w.heap.size w w205 := below_grew B192 G207 O188' B175.size (B192.size)
    have B210 : Below w12.heap.size w12 w205 := below_grew B193 G207 O188' B176.size (B193.size)
    have B211 : Below w20.heap.size w20 w205 := below_grew B194 G207 O188' B177.size (B194.size)
    have B212 : Below w29.heap.size w29 w205 := below_grew B195 G207 O188' B178.size (B195.size)
    have B213 : Below w38.heap.size w38 w205 := below_grew B196 G207 O188' B179.size (B196.size)
    have B214 : Below w45.heap.size w45 w205 := below_grew B197 G207 O188' B180.size (B197.size)
    have B215 : Below w78.heap.size w78 w205 := below_grew B198 G207 O188' B181.size (B198.size)
    have B216 : Below w93.heap.size w93 w205 := below_grew B199 G207 O188' B182.size (B199.size)
    have B217 : Below w101.heap.size w101 w205 := below_grew B200 G207 O188' B183.size (B200.size)
    have B218 : Below w143.heap.size w143 w205 := below_grew B201 G207 O188' B184.size (B201.size)
    have B219 : Below w161.heap.size w161 w205 := below_grew B202 G207 O188' B185.size (B202.size)
    have B220 : Below w172.heap.size w172 w205 := below_grew B203 G207 O188' (Nat.le_refl _) (B203.size)
    refine EL_nil ?_
    refine ⟨rfl, .inr B220, ?_⟩
    refine EH_one 4 (by kernel_rfl) ⟨_, rfl, ?_⟩
    refine EL_append (v := v204) (xs := (([] : List UInt8) ++ f).map byt) (ys := a.map byt) w172.heap.size elB rfl rfl rfl (by simpa using O206') (R25.below B211) (byt_one _) (by first | (simp only [List.length_map, List.length_nil]; omega) | (simp; done) | (simp; omega)) (by decide) B220.size ?_
    intro v222 w223 O224 G225 A226
    have O224' := own_app O224
    have B227 : Below w.heap.size w w223 := below_grew B209 G225 O206' B175.size (B209.size)
    have B228 : Below w12.heap.size w12 w223 := below_grew B210 G225 O206' B176.size (B210.size)
    have B229 : Below w20.heap.size w20 w223 := below_grew B211 G225 O206' B177.size (B211.size)
    have B230 : Below w29.heap.size w29 w223 := below_grew B212 G225 O206' B178.size (B212.size)
    have B231 : Below w38.heap.size w38 w223 := below_grew B213 G225 O206' B179.size (B213.size)
    have B232 : Below w45.heap.size w45 w223 := below_grew B214 G225 O206' B180.size (B214.size)
    have B233 : Below w78.heap.size w78 w223 := below_grew B215 G225 O206' B181.size (B215.size)
    have B234 : Below w93.heap.size w93 w223 := below_grew B216 G225 O206' B182.size (B216.size)
    have B235 : Below w101.heap.size w101 w223 := below_grew B217 G225 O206' B183.size (B217.size)
    have B236 : Below w143.heap.size w143 w223 := below_grew B218 G225 O206' B184.size (B218.size)
    have B237 : Below w161.heap.size w161 w223 := below_grew B219 G225 O206' B185.size (B219.size)
    have B238 : Below w172.heap.size w172 w223 := below_grew B220 G225 O206' (Nat.le_refl _) (B220.size)
    refine EL_nil ?_
    refine ⟨rfl, .inr B238, ?_⟩
    refine EH_one 5 (by kernel_rfl) ⟨_, rfl, ?_⟩
    have L243 := tag_len ((([] : List UInt8) ++ f) ++ a) ([] : List UInt8)
    refine EL_ret [v222, .slice none 0 0] rfl Try.func10 rfl nm10 rfl (Tag_ok v222 ((([] : List UInt8) ++ f) ++ a) (.slice none 0 0) ([] : List UInt8) w223 (own_row O224') (Row.nil _) (by first | omega | (simp; done) | (simp; omega))) ?_
    rintro _ w244 ⟨p240, rfl, O241, B242⟩
    have B245 : Below w.heap.size w w244 := below_full B227 B227.size B242
    have B246 : Below w12.heap.size w12 w244 := below_full B228 B228.size B242
    have B247 : Below w20.heap.size w20 w244 := below_full B229 B229.size B242
    have B248 : Below w29.heap.size w29 w244 := below_full B230 B230.size B242
    have B249 : Below w38.heap.size w38 w244 := below_full B231 B231.size B242
    have B250 : Below w45.heap.size w45 w244 := below_full B232 B232.size B242
    have B251 : Below w78.heap.size w78 w244 := below_full B233 B233.size B242
    have B252 : Below w93.heap.size w93 w244 := below_full B234 B234.size B242
    have B253 : Below w101.heap.size w101 w244 := below_full B235 B235.size B242
    have B254 : Below w143.heap.size w143 w244 := below_full B236 B236.size B242
    have B255 : Below w161.heap.size w161 w244 := below_full B237 B237.size B242
    have B256 : Below w172.heap.size w172 w244 := below_full B238 B238.size B242
    have B257 : Below w223.heap.size w223 w244 := B242
    refine EL_nil ?_
    refine ⟨rfl, .inl (by kernel_rfl), ?_⟩
    refine EH_float 6 rfl (by kernel_rfl) (by kernel_rfl) (by kernel_rfl) rfl (.inl (by kernel_rfl)) (.tuple #[p240, .int .i64 0]) rfl (fun _ => r_move rfl) ?_
    refine EH_float 7 rfl (by kernel_rfl) (by kernel_rfl) (by kernel_rfl) rfl (.inl (by kernel_rfl)) p240 rfl (fun _ => r_extract rfl rfl) ?_
    refine EH_float 8 rfl (by kernel_rfl) (by kernel_rfl) (by kernel_rfl) rfl (.inl (by kernel_rfl)) (.int .i64 0) rfl (fun _ => r_extract rfl rfl) ?_
    refine EH_float 9 rfl (by kernel_rfl) (by kernel_rfl) (by kernel_rfl) rfl (.inl (by kernel_rfl)) p240 rfl (fun _ => r_assign rfl) ?_
    refine EH_float 10 rfl (by kernel_rfl) (by kernel_rfl) (by kernel_rfl) rfl (.inl (by kernel_rfl)) (.int .i64 0) rfl (fun _ => r_assign rfl) ?_
    refine EH_done (by kernel_rfl) ?_
    refine thn_n ?_
    refine EC_seq ?_
    refine EC_seq ?_
    refine EC_held (fun w' => Below w244.heap.size w244 w') (by kernel_rfl) ?_
    intro w258 B259 z260
    have B261 : Below w.heap.size w w258 := below_full B245 B245.size B259
    have B262 : Below w12.heap.size w12 w258 := below_full B246 B246.size B259
    have B263 : Below w20.heap.size w20 w258 := below_full B247 B247.size B259
    have B264 : Below w29.heap.size w29 w258 := below_full B248 B248.size B259
    have B265 : Below w38.heap.size w38 w258 := below_full B249 B249.size B259
    have B266 : Below w45.heap.size w45 w258 := below_full B250 B250.size B259
    have B267 : Below w78.heap.size w78 w258 := below_full B251 B251.size B259
    have B268 : Below w93.heap.size w93 w258 := below_full B252 B252.size B259
    have B269 : Below w101.heap.size w101 w258 := below_full B253 B253.size B259
    have B270 : Below w143.heap.size w143 w258 := below_full B254 B254.size B259
    have B271 : Below w161.heap.size w161 w258 := below_full B255 B255.size B259
    have B272 : Below w172.heap.size w172 w258 := below_full B256 B256.size B259
    have B273 : Below w223.heap.size w223 w258 := below_full B257 B257.size B259
    have B274 : Below w244.heap.size w244 w258 := B259
    refine EA_strong (fun w' => Below w258.heap.size w258 w') (fun _ hw => below_full B274 B274.size hw) ?_
    refine EA_take 0 rfl (by kernel_rfl) (by kernel_rfl) (by kernel_rfl) (.int .i64 0) rfl (fun _ hw => r_move rfl) (Below.refl _ _) ?_
    refine EA_take 1 rfl (by kernel_rfl) (by kernel_rfl) (by kernel_rfl) (.bool false) rfl (fun _ hw => r_dec (by decide) (r_neq rfl rfl)) (Below.refl _ _) ?_
    refine EA_take 2 rfl (by kernel_rfl) (by kernel_rfl) (by kernel_rfl) (.bool false) rfl (fun _ hw => r_move rfl) (Below.refl _ _) ?_
    refine EA_gtake 3 rfl (by kernel_rfl) (by kernel_rfl) (by kernel_rfl) 54 rfl rfl rfl rfl (.int .i64 0) rfl (fun _ hw => r_move rfl) (Below.refl _ _) ?_
    refine EA_gtake 4 rfl (by kernel_rfl) (by kernel_rfl) (by kernel_rfl) 54 rfl rfl rfl rfl (.bool false) rfl (fun _ hw => r_dec (by decide) (r_neq rfl rfl)) (Below.refl _ _) ?_
    refine EA_take 5 rfl (by kernel_rfl) (by kernel_rfl) (by kernel_rfl) (.bool false) rfl (fun _ hw => r_pickF rfl rfl) (Below.refl _ _) ?_
    refine EA_take 6 rfl (by kernel_rfl) (by kernel_rfl) (by kernel_rfl) (.bool false) rfl (fun _ hw => r_move rfl) (Below.refl _ _) ?_
    refine EA_gtake 7 rfl (by kernel_rfl) (by kernel_rfl) (by kernel_rfl) 58 rfl rfl rfl rfl (.int .i64 0) rfl (fun _ hw => r_move rfl) (Below.refl _ _) ?_
    refine EA_gtake 8 rfl (by kernel_rfl) (by kernel_rfl) (by kernel_rfl) 58 rfl rfl rfl rfl (.bool false) rfl (fun _ hw => r_dec (by decide) (r_neq rfl rfl)) (Below.refl _ _) ?_
    refine EA_take 9 rfl (by kernel_rfl) (by kernel_rfl) (by kernel_rfl) (.bool false) rfl (fun _ hw => r_pickF rfl rfl) (Below.refl _ _) ?_
    refine EA_take 10 rfl (by kernel_rfl) (by kernel_rfl) (by kernel_rfl) (.bool false) rfl (fun _ hw => r_move rfl) (Below.refl _ _) ?_
    refine EA_gtake 11 rfl (by kernel_rfl) (by kernel_rfl) (by kernel_rfl) 62 rfl rfl rfl rfl p89 rfl (fun _ hw => r_move rfl) (Below.refl _ _) ?_
    refine EA_gtake 12 rfl (by kernel_rfl) (by kernel_rfl) (by kernel_rfl) 62 rfl rfl rfl rfl (.int .i64 ((tag ((([] : List UInt8) ++ f) ++ a) t).length : Int)) rfl (fun _ hw => lenB (r_len rfl (((own_row O90).below B268).below hw) Try.underlying22)) (Below.refl _ _) ?_
    refine EA_gtake 13 rfl (by kernel_rfl) (by kernel_rfl) (by kernel_rfl) 62 rfl rfl rfl rfl (.bool false) rfl (fun _ hw => r_dec (show (decide (((tag ((([] : List UInt8) ++ f) ++ a) t).length : Int) ≠ 16)) = false from by first | (rw [tag_len]; rfl) | (have e := tag_nil (f := f) (a := a) hf ha; simpa using e)) (r_neq rfl rfl)) (Below.refl _ _) ?_
    refine EA_take 14 rfl (by kernel_rfl) (by kernel_rfl) (by kernel_rfl) (.bool false) rfl (fun _ hw => r_pickF rfl rfl) (Below.refl _ _) ?_
    refine EA_take 15 rfl (by kernel_rfl) (by kernel_rfl) (by kernel_rfl) (.bool false) rfl (fun _ hw => r_move rfl) (Below.refl _ _) ?_
    refine EA_gtake 16 rfl (by kernel_rfl) (by kernel_rfl) (by kernel_rfl) 67 rfl rfl rfl rfl p157 rfl (fun _ hw => r_move rfl) (Below.refl _ _) ?_
    refine EA_gtake 17 rfl (by kernel_rfl) (by kernel_rfl) (by kernel_rfl) 67 rfl rfl rfl rfl (.int .i64 ((tag ((([] : List UInt8) ++ f) ++ b) t).length : Int)) rfl (fun _ hw => lenB (r_len rfl (((own_row O158).below B271).below hw) Try.underlying22)) (Below.refl _ _) ?_
    refine EA_gtake 18 rfl (by kernel_rfl) (by kernel_rfl) (by kernel_rfl) 67 rfl rfl rfl rfl (.bool false) rfl (fun _ hw => r_dec (show (decide (((tag ((([] : List UInt8) ++ f) ++ b) t).length : Int) ≠ 16)) = false from by first | (rw [tag_len]; rfl) | (have e := tag_nil (f := f) (a := a) hf ha; simpa using e)) (r_neq rfl rfl)) (Below.refl _ _) ?_
    refine EA_take 19 rfl (by kernel_rfl) (by kernel_rfl) (by kernel_rfl) (.bool false) rfl (fun _ hw => r_pickF rfl rfl) (Below.refl _ _) ?_
    refine EA_take 20 rfl (by kernel_rfl) (by kernel_rfl) (by kernel_rfl) (.bool false) rfl (fun _ hw => r_move rfl) (Below.refl _ _) ?_
    refine EA_gtake 21 rfl (by kernel_rfl) (by kernel_rfl) (by kernel_rfl) 72 rfl rfl rfl rfl p240 rfl (fun _ hw => r_move rfl) (Below.refl _ _) ?_
    refine EA_gtake 22 rfl (by kernel_rfl) (by kernel_rfl) (by kernel_rfl) 72 rfl rfl rfl rfl (.string (str (tag ((([] : List UInt8) ++ f) ++ a) ([] : List UInt8)))) rfl (fun _ hw => r_str rfl (((own_row O241).below B274).below hw) Try.underlying22 Try.underlying5 Try.underlying9) (Below.refl _ _) ?_
    refine EA_gtake 23 rfl (by kernel_rfl) (by kernel_rfl) (by kernel_rfl) 72 rfl rfl rfl rfl (.slice (some ⟨b19, 0, none⟩) 16 16) rfl (fun _ hw => r_sliceA rfl Try.underlying30 (by kernel_rfl)) (Below.refl _ _) ?_
    refine EA_gtake 24 rfl (by kernel_rfl) (by kernel_rfl) (by kernel_rfl) 72 rfl rfl rfl rfl (.string (str a)) rfl (fun _ hw => r_str rfl ((R25.below B263).below hw) Try.underlying22 Try.underlying5 Try.underlying9) (Below.refl _ _) ?_
    refine EA_gtake 25 rfl (by kernel_rfl) (by kernel_rfl) (by kernel_rfl) 72 rfl rfl rfl rfl (.bool false) rfl (fun _ hw => r_dec (show (decide ((tag ((([] : List UInt8) ++ f) ++ a) ([] : List UInt8)) ≠ a)) = false from by first | (rw [tag_len]; rfl) | (have e := tag_nil (f := f) (a := a) hf ha; simpa using e)) (r_neqs rfl rfl)) (Below.refl _ _) ?_
    refine EA_take 26 rfl (by kernel_rfl) (by kernel_rfl) (by kernel_rfl) (.bool false) rfl (fun _ hw => r_pickF rfl rfl) (Below.refl _ _) ?_
    refine EA_done (by kernel_rfl) ?_
    refine thn_n ?_
    refine EC_cond_false rfl ?_
    refine EC_skip ?_
    refine thn_n ?_
    refine EC_seq ?_
    refine EC_reg ?_
    refine EL_val (.int .i64 0) w258 rfl (r_assign rfl) ?_
    refine EL_val (.int .i64 0) w258 rfl (r_assign rfl) ?_
    have ea : tag ((([] : List UInt8) ++ f) ++ a) t = tgn (SS + num a) 16 := by rw [hSS]; have e := tag_app (f := f) (a := a) (t := t) hf; simpa using e
    have O275 := own_as (own_below O90 B268) ea
    have hLa : (tgn (SS + num a) 16).length = 16 := tgn_len _ _
    have eb : tag ((([] : List UInt8) ++ f) ++ b) t = tgn (SS + num b) 16 := by rw [hSS]; have e := tag_app (f := f) (a := b) (t := t) hf; simpa using e
    have O276 := own_as (own_below O158 B271) eb
    have hLb : (tgn (SS + num b) 16).length = 16 := tgn_len _ _
    refine EL_nil ?_
    refine thn_n ?_
    refine EC_seq ?_
    refine EC_seq ?_
    refine EC_reg ?_
    refine EL_val (.int .i64 0) w258 rfl (r_move rfl) ?_
    refine EL_nil ?_
    refine thn_n ?_
    refine EC_block ?_
    refine EC_loop (fun m' E' w' => ∃ i : Int, ∃ c : Int, ∃ d : Int, m' = (16 - i).toNat ∧ E' 79 = .int .i64 i ∧ E' 15 = .int .i64 c ∧ E' 16 = .int .i64 d ∧ E' 5 = ptr b19 ∧ E' 6 = ptr b28 ∧ E' 9 = p89 ∧ E' 11 = p157 ∧ (0 ≤ i ∧ i ≤ 16) ∧ (0 ≤ c ∧ c ≤ 1) ∧ (0 ≤ d ∧ d ≤ 1) ∧ (c = (SS + num a + num b) / 256 ^ i.toNat - (SS + num a) / 256 ^ i.toNat - num b / 256 ^ i.toNat) ∧ (d = (SS + num a + num b) / 256 ^ i.toNat - (SS + num b) / 256 ^ i.toNat - num a / 256 ^ i.toNat) ∧ Below w.heap.size w w' ∧ Below w12.heap.size w12 w' ∧ Below w20.heap.size w20 w' ∧ Below w29.heap.size w29 w' ∧ Below w38.heap.size w38 w' ∧ Below w45.heap.size w45 w' ∧ Below w78.heap.size w78 w' ∧ Below w93.heap.size w93 w' ∧ Below w101.heap.size w101 w' ∧ Below w143.heap.size w143 w' ∧ Below w161.heap.size w161 w' ∧ Below w172.heap.size w172 w' ∧ Below w223.heap.size w223 w' ∧ Below w244.heap.size w244 w' ∧ Below w258.heap.size w258 w') _ ⟨0, 0, 0, rfl, rfl, rfl, rfl, rfl, rfl, rfl, rfl, by omega, by omega, by omega, by simp; omega, by simp; omega, B261, B262, B263, B264, B265, B266, B267, B268, B269, B270, B271, B272, B273, B274, (Below.refl _ _)⟩ ?_
    rintro _ E277 w278 ⟨i, c, d, rfl, e279, e280, e281, e282, e283, e284, e285, hi, hc, hd, hcv, hdv, B286, B287, B288, B289, B290, B291, B292, B293, B294, B295, B296, B297, B298, B299, B300⟩
    refine EC_seq ?_
    refine EC_reg ?_
    refine EL_val (.bool (decide (i < 16))) w278 rfl (r_lss (by exact e279) rfl) ?_
    refine EL_nil ?_
    refine thn_n ?_
    refine EC_seq ?_
    refine EC_if (p := i < 16) rfl (fun h301 => ?_) (fun h301 => ?_)
    · refine EC_skip ?_
      refine thn_n ?_
      refine EC_seq ?_
      refine EC_block ?_
      refine EC_seq ?_
      refine EC_reg ?_
      refine EL_val (.int .i64 i) w278 rfl (r_move (by exact e279)) ?_
      refine EL_val (.int .i64 i) w278 rfl (r_assign rfl) ?_
      refine EL_nil ?_
      refine thn_n ?_
      refine EC_seq ?_
      refine EC_quietB (by kernel_rfl) (by kernel_rfl) ?_
      refine EQ_val (.int .i64 c) rfl (fun _ hw => r_move (by exact e280)) ?_
      refine EQ_val p89 rfl (fun _ hw => r_move (by exact e284)) ?_
      refine EQ_val (.int .i64 i) rfl (fun _ hw => r_move rfl) ?_
      refine EQ_val (.pointer (some (at_ p89 ((i : Int).toNat)))) rfl (fun _ hw => r_index rfl (((own_row O275).below B300).below hw) rfl (by omega) (by first | omega | (simp; omega) | simp) Try.underlying22 (by kernel_rfl)) ?_
      obtain ⟨b302, hb303⟩ := get_some (l := tgn (SS + num a) 16) (j := (i : Int).toNat) (by omega)
      have hb304 := b302.toNat_lt
      refine EQ_val (.int .u8 (b302.toNat : Int)) rfl (fun _ hw => r_load rfl ((((own_row O275).below B300).below hw).cell (bs_get hb303)) Try.underlying5 rfl) ?_
      refine EQ_val (.int .i64 (b302.toNat : Int)) rfl (fun _ hw => r_convi 5 3 rfl Try.underlying5 Try.underlying3 (by omega)) ?_
      refine EQ_val (.int .i64 i) rfl (fun _ hw => r_move rfl) ?_
      refine EQ_val (ptr b28 ((i : Int).toNat)) rfl (fun _ hw => r_indexA (i := i) (by exact e283) rfl (by omega) (by omega) Try.underlying30 (by kernel_rfl)) ?_
      obtain ⟨b305, hb306⟩ := get_some (l := b) (j := (i : Int).toNat) (by first | omega | (simp; omega) | simp)
      have hb307 := b305.toNat_lt
      refine EQ_val (.int .u8 (b305.toNat : Int)) rfl (fun _ hw => r_load rfl (row_cellA ((R34.below B289).below hw) hb306) Try.underlying5 rfl) ?_
      refine EQ_val (.int .i64 (b305.toNat : Int)) rfl (fun _ hw => r_convi 5 3 rfl Try.underlying5 Try.underlying3 (by omega)) ?_
      refine EQ_int ((b302.toNat : Int) + (b305.toNat : Int)) rfl (fun _ hw => r_addi rfl rfl (by omega)) ?_
      intro x308 hx308
      refine EQ_int (c + x308) rfl (fun _ hw => r_addi rfl rfl (by omega)) ?_
      intro x309 hx309
      refine EQ_val (.int .i64 x309) rfl (fun _ hw => r_assign rfl) ?_
      refine EQ_nil ?_
      intro w310 B311
      have B312 : Below w.heap.size w w310 := below_full B286 B286.size B311
      have B313 : Below w12.heap.size w12 w310 := below_full B287 B287.size B311
      have B314 : Below w20.heap.size w20 w310 := below_full B288 B288.size B311
      have B315 : Below w29.heap.size w29 w310 := below_full B289 B289.size B311
      have B316 : Below w38.heap.size w38 w310 := below_full B290 B290.size B311
      have B317 : Below w45.heap.size w45 w310 := below_full B291 B291.size B311
      have B318 : Below w78.heap.size w78 w310 := below_full B292 B292.size B311
      have B319 : Below w93.heap.size w93 w310 := below_full B293 B293.size B311
      have B320 : Below w101.heap.size w101 w310 := below_full B294 B294.size B311
      have B321 : Below w143.heap.size w143 w310 := below_full B295 B295.size B311
      have B322 : Below w161.heap.size w161 w310 := below_full B296 B296.size B311
      have B323 : Below w172.heap.size w172 w310 := below_full B297 B297.size B311
      have B324 : Below w223.heap.size w223 w310 := below_full B298 B298.size B311
      have B325 : Below w244.heap.size w244 w310 := below_full B299 B299.size B311
      have B326 : Below w258.heap.size w258 w310 := below_full B300 B300.size B311
      have B327 : Below w278.heap.size w278 w310 := B311
      refine thn_n ?_
      refine EC_seq ?_
      refine EC_quietB (by kernel_rfl) (by kernel_rfl) ?_
      refine EQ_val (.int .i64 d) rfl (fun _ hw => r_move (by exact e281)) ?_
      refine EQ_val p157 rfl (fun _ hw => r_move (by exact e285)) ?_
      refine EQ_val (.int .i64 i) rfl (fun _ hw => r_move rfl) ?_
      refine EQ_val (.pointer (some (at_ p157 ((i : Int).toNat)))) rfl (fun _ hw => r_index rfl (((own_row O276).below B326).below hw) rfl (by omega) (by first | omega | (simp; omega) | simp) Try.underlying22 (by kernel_rfl)) ?_
      obtain ⟨b328, hb329⟩ := get_some (l := tgn (SS + num b) 16) (j := (i : Int).toNat) (by omega)
      have hb330 := b328.toNat_lt
      refine EQ_val (.int .u8 (b328.toNat : Int)) rfl (fun _ hw => r_load rfl ((((own_row O276).below B326).below hw).cell (bs_get hb329)) Try.underlying5 rfl) ?_
      refine EQ_val (.int .i64 (b328.toNat : Int)) rfl (fun _ hw => r_convi 5 3 rfl Try.underlying5 Try.underlying3 (by omega)) ?_
      refine EQ_val (.int .i64 i) rfl (fun _ hw => r_move rfl) ?_
      refine EQ_val (ptr b19 ((i : Int).toNat)) rfl (fun _ hw => r_indexA (i := i) (by exact e282) rfl (by omega) (by omega) Try.underlying30 (by kernel_rfl)) ?_
      obtain ⟨b331, hb332⟩ := get_some (l := a) (j := (i : Int).toNat) (by first | omega | (simp; omega) | simp)
      have hb333 := b331.toNat_lt
      refine EQ_val (.int .u8 (b331.toNat : Int)) rfl (fun _ hw => r_load rfl (row_cellA ((R25.below B314).below hw) hb332) Try.underlying5 rfl) ?_
      refine EQ_val (.int .i64 (b331.toNat : Int)) rfl (fun _ hw => r_convi 5 3 rfl Try.underlying5 Try.underlying3 (by omega)) ?_
      refine EQ_int ((b328.toNat : Int) + (b331.toNat : Int)) rfl (fun _ hw => r_addi rfl rfl (by omega)) ?_
      intro x334 hx334
      refine EQ_int (d + x334) rfl (fun _ hw => r_addi rfl rfl (by omega)) ?_
      intro x335 hx335
      refine EQ_val (.int .i64 x335) rfl (fun _ hw => r_assign rfl) ?_
      refine EQ_nil ?_
      intro w336 B337
      have B338 : Below w.heap.size w w336 := below_full B312 B312.size B337
      have B339 : Below w12.heap.size w12 w336 := below_full B313 B313.size B337
      have B340 : Below w20.heap.size w20 w336 := below_full B314 B314.size B337
      have B341 : Below w29.heap.size w29 w336 := below_full B315 B315.size B337
      have B342 : Below w38.heap.size w38 w336 := below_full B316 B316.size B337
      have B343 : Below w45.heap.size w45 w336 := below_full B317 B317.size B337
      have B344 : Below w78.heap.size w78 w336 := below_full B318 B318.size B337
      have B345 : Below w93.heap.size w93 w336 := below_full B319 B319.size B337
      have B346 : Below w101.heap.size w101 w336 := below_full B320 B320.size B337
      have B347 : Below w143.heap.size w143 w336 := below_full B321 B321.size B337
      have B348 : Below w161.heap.size w161 w336 := below_full B322 B322.size B337
      have B349 : Below w172.heap.size w172 w336 := below_full B323 B323.size B337
      have B350 : Below w223.heap.size w223 w336 := below_full B324 B324.size B337
      have B351 : Below w244.heap.size w244 w336 := below_full B325 B325.size B337
      have B352 : Below w258.heap.size w258 w336 := below_full B326 B326.size B337
      have B353 : Below w278.heap.size w278 w336 := below_full B327 B327.size B337
      have B354 : Below w310.heap.size w310 w336 := B337
      refine thn_n ?_
      refine EC_seq ?_
      refine EC_seq ?_
      refine EC_reg ?_
      refine EL_val (.int .i64 x309) w336 rfl (r_move rfl) ?_
      refine EL_int (x309 % 256) rfl (r_remi rfl rfl (by omega) (by omega)) ?_
      intro x355 hx355
      refine EL_val (.int .i64 x335) w336 rfl (r_move rfl) ?_
      refine EL_int (x335 % 256) rfl (r_remi rfl rfl (by omega) (by omega)) ?_
      intro x356 hx356
      have x1 := tgn_get hb303
      have x2 := num_get (b := b) (by omega) hb306
      have y1 := tgn_get hb329
      have y2 := num_get (b := a) (by omega) hb332
      obtain ⟨s1, s2⟩ := sec_step hcv x1 x2
      obtain ⟨t1, t2⟩ := sec_step hdv y1 y2
      refine EL_val (.bool false) w336 rfl (r_dec (show (decide (x355 ≠ x356)) = false from by simp; omega) (r_neq rfl rfl)) ?_
      refine EL_nil ?_
      refine thn_n ?_
      refine EC_cond_false rfl ?_
      refine EC_skip ?_
      refine thn_n ?_
      refine EC_reg ?_
      refine EL_val (.int .i64 x309) w336 rfl (r_move rfl) ?_
      refine EL_int (x309 / 256) rfl (r_quoi rfl rfl (by omega) (by omega)) ?_
      intro x357 hx357
      refine EL_val (.int .i64 x335) w336 rfl (r_move rfl) ?_
      refine EL_int (x335 / 256) rfl (r_quoi rfl rfl (by omega) (by omega)) ?_
      intro x358 hx358
      refine EL_val (.int .i64 x357) w336 rfl (r_assign rfl) ?_
      refine EL_val (.int .i64 x358) w336 rfl (r_assign rfl) ?_
      refine EL_nil ?_
      refine inB_n ?_
      refine thn_n ?_
      refine EC_reg ?_
      refine EL_int (i + 1) rfl (r_addi (by exact e279) rfl (by omega)) ?_
      intro x359 hx359
      refine EL_val (.int .i64 x359) w336 rfl (r_move rfl) ?_
      refine EL_nil ?_
      refine thn_n ?_
      refine ⟨_, ?_, x359, x357, x358, rfl, rfl, rfl, rfl, (by exact e282), (by exact e283), (by exact e284), (by exact e285), by omega, by omega, by omega, by rw [show (x359 : Int).toNat = i.toNat + 1 from by omega, ← s2]; omega, by rw [show (x359 : Int).toNat = i.toNat + 1 from by omega, ← t2]; omega, B338, B339, B340, B341, B342, B343, B344, B345, B346, B347, B348, B349, B350, B351, B352⟩
      first | omega | (simp; omega)
    · refine EC_exit ?_
      refine thn_x ?_
      refine thn_x ?_
      refine inB_hit ?_
      refine thn_n ?_
      refine EC_seq ?_
      refine EC_reg ?_
      refine EL_val (.bool true) w278 rfl (r_assign rfl) ?_
      refine EL_nil ?_
      refine thn_n ?_
      refine EC_ret ?_
      refine fin1 Try.results5 (show _ = .bool true from rfl) ⟨_, rfl, ?_⟩
      exact ⟨rfl, B286⟩
theorem own : ownKnob Try.prog.godebug = none := by kernel_rfl
theorem laidOut : laidOutB Try.prog = true := by kernel_rfl
set_option maxRecDepth 100000 in
theorem lifted (os : Os) (started : os.Started) (H : Type) (enc : TypeId × Value → H) :
    ReturnsInHanded {} Try.checked os 5 .any (Rows.polySecondSpec.pre6 enc Try.prog Try.f5 Rows.polySecondRow.domain false) (Rows.polySecondSpec.post enc Try.prog Try.f5 false true false false) := by
  refine returnsInHanded_of_change (C := Try.checked) own started (by kernel_rfl) Try.func5
    (ChangeSpec.witness6 (enc := enc) (C := Try.checked) false ⟨#[], #[.agg #[.int .u8 0, .int .u8 0, .int .u8 0, .int .u8 0, .int .u8 0, .int .u8 0, .int .u8 0, .int .u8 0, .int .u8 0, .int .u8 0, .int .u8 0, .int .u8 0, .int .u8 0, .int .u8 0, .int .u8 0, .int .u8 0], .agg #[.int .u8 0, .int .u8 0, .int .u8 0, .int .u8 0, .int .u8 0, .int .u8 0, .int .u8 0, .int .u8 0, .int .u8 0, .int .u8 0, .int .u8 0, .int .u8 0, .int .u8 0, .int .u8 0, .int .u8 0, .int .u8 0], .agg #[.int .u8 0, .int .u8 0, .int .u8 0, .int .u8 0, .int .u8 0, .int .u8 0, .int .u8 0, .int .u8 0, .int .u8 0, .int .u8 0, .int .u8 0, .int .u8 0, .int .u8 0, .int .u8 0, .int .u8 0, .int .u8 0], .slice none 0 0], []⟩ 8 (by kernel_rfl) (by kernel_rfl) (by kernel_rfl) (by kernel_rfl)) ?_
  intro W base args ds gs before hval0 hW hcnd _
  have hval : ∀ (j : Nat) t v, Try.f5.params[j]? = some t → args[j]? = some v → Value.okWide Try.prog W .any base t v := hval0
  have hW' := hW
  obtain ⟨p, q, hA0, hV, rfl, hfz, hnd⟩ := hW
  have hA : DataW.TrodAll enc Try.prog W 0 (fun _ => true) true Try.f5.params.toList args.toList ds p := hA0
  rw [Try.params5] at hA hval
  obtain ⟨v0, vs0, d0, ds0, p0, q0, hargs, rfl, rfl, h0, r0⟩ := trodAll_cons hA
  obtain ⟨v1, vs1, d1, ds1, p1, q1, rfl, rfl, rfl, h1, r1⟩ := trodAll_cons r0
  obtain ⟨v2, vs2, d2, ds2, p2, q2, rfl, rfl, rfl, h2, r2⟩ := trodAll_cons r1
  obtain ⟨v3, vs3, d3, ds3, p3, q3, rfl, rfl, rfl, h3, r3⟩ := trodAll_cons r2
  obtain ⟨rfl, rfl, rfl⟩ := trodAll_nil r3
  obtain rfl : args = #[v0, v1, v2, v3] := by cases args; simp_all
  obtain ⟨rfl, rfl⟩ := trodVars_none hV
  have k0 := h0
  have lt0 : ∀ x ∈ p0, x.block < W.heap.size := by obtain ⟨m, hm⟩ := k0; exact DataW.trod_lt m _ _ _ hm
  obtain ⟨l0, hl0, rfl⟩ := arr_open (n := 16) Try.underlying30 Try.underlying5 (by kernel_rfl) (by kernel_rfl) (hval 0 30 v0 rfl rfl) h0
  have k1 := h1
  have lt1 : ∀ x ∈ p1, x.block < W.heap.size := by obtain ⟨m, hm⟩ := k1; exact DataW.trod_lt m _ _ _ hm
  obtain ⟨l1, hl1, rfl⟩ := arr_open (n := 16) Try.underlying30 Try.underlying5 (by kernel_rfl) (by kernel_rfl) (hval 1 30 v1 rfl rfl) h1
  have k2 := h2
  have lt2 : ∀ x ∈ p2, x.block < W.heap.size := by obtain ⟨m, hm⟩ := k2; exact DataW.trod_lt m _ _ _ hm
  obtain ⟨l2, hl2, rfl⟩ := arr_open (n := 16) Try.underlying30 Try.underlying5 (by kernel_rfl) (by kernel_rfl) (hval 2 30 v2 rfl rfl) h2
  have k3 := h3
  have lt3 : ∀ x ∈ p3, x.block < W.heap.size := by obtain ⟨m, hm⟩ := k3; exact DataW.trod_lt m _ _ _ hm
  obtain ⟨a3, len3, cap3, rfl⟩ := okWide_slice Try.underlying22 (hval 3 22 v3 rfl rfl)
  obtain ⟨b3, H3⟩ : ∃ l, Bs W (.slice a3 len3 cap3) l := by
    obtain ⟨fuel, hf⟩ := h3
    rcases open_ints Try.underlying22 Try.underlying5 (by kernel_rfl) hf with ⟨hcs, _⟩ | ⟨x, l, c, zs, hcs, _, hl, hm, hz, _, hcell, hwz⟩
    · simp [Value.cells] at hcs
      obtain ⟨rfl, rfl, rfl⟩ := hcs
      exact ⟨[], Row.nil W⟩
    · simp [Value.cells] at hcs
      obtain ⟨rfl, rfl, rfl⟩ := hcs
      exact bs_open hl hm (by simpa using hz) hcell hwz
  clear hA0 hval0
  refine Calls.mono (PolySecond_c l0 l1 l2 (.slice a3 len3 cap3) b3 W hl0 hl1 hl2 H3) fun e W' ⟨v', he, hv, bel⟩ => ?_
  subst he
  subst hv
  exact ⟨_, rfl, _, _, _, [], _, [], hW', trodAll_mk1 (shut_bool Try.underlying4 _), (trodAll_cons_mk (Below.trod laidOut (by kernel_rfl) (of_decide_eq_true (by kernel_rfl)) k0 bel lt0) (trodAll_cons_mk (Below.trod laidOut (by kernel_rfl) (of_decide_eq_true (by kernel_rfl)) k1 bel lt1) (trodAll_cons_mk (Below.trod laidOut (by kernel_rfl) (of_decide_eq_true (by kernel_rfl)) k2 bel lt2) (trodAll_cons_mk (Below.trod laidOut (by kernel_rfl) (of_decide_eq_true (by kernel_rfl)) k3 bel lt3) trodAll_mk0)))), rfl, bel.frame _, fun h => by cases h⟩
theorem over : Rows.polySecondRow.holds Try.pinned (OpenSpec.ofChange Rows.polySecondSpec) :=
  OpenClaim.holds_of_wide 5 Try.f5 rfl rfl rfl rfl rfl rfl rfl ⟨rfl, rfl, rfl, rfl, rfl⟩ rfl rfl rfl rfl rfl (by kernel_rfl) Try.func5 (by kernel_rfl)
    (of_decide_eq_true (by kernel_rfl)) (by unfold Func.isWrapper; first | (rw [if_pos (by decide +kernel)]; kernel_rfl) | (rw [if_neg (by decide +kernel)]; exact ⟨rfl, rfl⟩))
    (fun os started H enc _ => lifted os started H enc)
end Go.Proofs.Ytofclhmajgicdaa.polySecond
namespace Go.Proofs.Ytofclhmajgicdaa
theorem PolySecond_holds : Rows.PolySecondSaid := polySecond.over
end Go.Proofs.Ytofclhmajgicdaa
