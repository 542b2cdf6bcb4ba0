/-
  The key's bits that are left out of r play no part.
  Its conditions: none: whatever the input, in whatever memory.
-/
import Derived.Test.YtofclhmajgicdaaRows
import Derived.Test.YtofclhmajgicdaaWalksJ
import Derived.ProofKit
import Derived.OpenShut
import Derived.ShutString
import Derived.ChangeOld
set_option linter.unusedVariables false
set_option linter.unusedSimpArgs false
namespace Go.Proofs.Ytofclhmajgicdaa.polyBits
open Go.ChangeShapes Go.WideShapes Go.ChangeAt Go.RowKit Go.Ecal
open Go.ChangeMaps (open_string shut_string)
theorem bof_nu (l : List UInt8) : (nu l).map bof = l := by
  apply List.ext_getElem?
  intro i
  simp only [nu, List.map_map, List.getElem?_map]
  cases hx : l[i]? with
  | none => simp
  | some u =>
    simp only [Option.map_some, Function.comp]
    congr 1
    apply UInt8.toNat_inj.1
    have := u.toNat_lt
    have b := bof_lt (m := (u.toNat : Int)) (by omega) (by omega)
    omega
theorem tag_bits {k o t : List UInt8} {y3 y4 y7 y8 y11 y12 y15 : Int} (hk : k.length = 32) (h3 : y3 % 16 = bi k 3 % 16) (h4 : y4 / 4 = bi k 4 / 4) (h7 : y7 % 16 = bi k 7 % 16) (h8 : y8 / 4 = bi k 8 / 4) (h11 : y11 % 16 = bi k 11 % 16) (h12 : y12 / 4 = bi k 12 / 4) (h15 : y15 % 16 = bi k 15 % 16)
    (ho : nu o = (((((((nu k).set 3 y3).set 4 y4).set 7 y7).set 8 y8).set 11 y11).set 12 y12).set 15 y15) : tag o t = tag k t := by
  have hn : (nu k).length = 32 := by rw [nu_len]; exact hk
  have lo : o.length = 32 := by rw [← nu_len, ho]; simp only [List.length_set]; exact hn
  have hd : o.drop 16 = k.drop 16 := by
    have e : nu (o.drop 16) = nu (k.drop 16) := by
      have h1 : ∀ l : List UInt8, nu (l.drop 16) = (nu l).drop 16 := fun l => by simp [nu, List.map_drop]
      rw [h1, h1, ho]
      simp [List.drop_set]
    have := congrArg (List.map bof) e
    rwa [bof_nu, bof_nu] at this
  have g : ∀ i, bi o i = ((((((((nu k).set 3 y3).set 4 y4).set 7 y7).set 8 y8).set 11 y11).set 12 y12).set 15 y15).getD i 0 := fun i => by rw [bi_nu, ho]
  have gk : ∀ i, bi k i = (nu k).getD i 0 := bi_nu k
  have e0 : bi o 0 = bi k 0 := by rw [g, gk]; simp [List.getD_eq_getElem?_getD]
  have e1 : bi o 1 = bi k 1 := by rw [g, gk]; simp [List.getD_eq_getElem?_getD]
  have e2 : bi o 2 = bi k 2 := by rw [g, gk]; simp [List.getD_eq_getElem?_getD]
  have e3 : bi o 3 = y3 := by rw [g]; simp [List.getD_eq_getElem?_getD, List.getElem?_set, hn]
  have e4 : bi o 4 = y4 := by rw [g]; simp [List.getD_eq_getElem?_getD, List.getElem?_set, hn]
  have e5 : bi o 5 = bi k 5 := by rw [g, gk]; simp [List.getD_eq_getElem?_getD]
  have e6 : bi o 6 = bi k 6 := by rw [g, gk]; simp [List.getD_eq_getElem?_getD]
  have e7 : bi o 7 = y7 := by rw [g]; simp [List.getD_eq_getElem?_getD, List.getElem?_set, hn]
  have e8 : bi o 8 = y8 := by rw [g]; simp [List.getD_eq_getElem?_getD, List.getElem?_set, hn]
  have e9 : bi o 9 = bi k 9 := by rw [g, gk]; simp [List.getD_eq_getElem?_getD]
  have e10 : bi o 10 = bi k 10 := by rw [g, gk]; simp [List.getD_eq_getElem?_getD]
  have e11 : bi o 11 = y11 := by rw [g]; simp [List.getD_eq_getElem?_getD, List.getElem?_set, hn]
  have e12 : bi o 12 = y12 := by rw [g]; simp [List.getD_eq_getElem?_getD, List.getElem?_set, hn]
  have e13 : bi o 13 = bi k 13 := by rw [g, gk]; simp [List.getD_eq_getElem?_getD]
  have e14 : bi o 14 = bi k 14 := by rw [g, gk]; simp [List.getD_eq_getElem?_getD]
  have e15 : bi o 15 = y15 := by rw [g]; simp [List.getD_eq_getElem?_getD, List.getElem?_set, hn]
  have c : cl (num (o.take 16)) = cl (num (k.take 16)) := by
    rw [cl_bi (by simp; omega), cl_bi (by simp; omega)]
    have t0 : ∀ l : List UInt8, ∀ i, i < 16 → bi (l.take 16) i = bi l i := fun l i hi => bi_take hi
    rw [t0 o 0 (by decide), t0 o 1 (by decide), t0 o 2 (by decide), t0 o 3 (by decide), t0 o 4 (by decide), t0 o 5 (by decide), t0 o 6 (by decide), t0 o 7 (by decide), t0 o 8 (by decide), t0 o 9 (by decide), t0 o 10 (by decide), t0 o 11 (by decide), t0 o 12 (by decide), t0 o 13 (by decide), t0 o 14 (by decide), t0 o 15 (by decide),
      t0 k 0 (by decide), t0 k 1 (by decide), t0 k 2 (by decide), t0 k 3 (by decide), t0 k 4 (by decide), t0 k 5 (by decide), t0 k 6 (by decide), t0 k 7 (by decide), t0 k 8 (by decide), t0 k 9 (by decide), t0 k 10 (by decide), t0 k 11 (by decide), t0 k 12 (by decide), t0 k 13 (by decide), t0 k 14 (by decide), t0 k 15 (by decide)]
    rw [e0, e1, e2, e3, e4, e5, e6, e7, e8, e9, e10, e11, e12, e13, e14, e15, h3, h4, h7, h8, h11, h12, h15]
  rw [tag, tag, c, hd]
set_option maxRecDepth 100000 in
set_option maxHeartbeats 4000000 in
theorem PolyBits_c (k : List UInt8) (u : List UInt8) (v1 : Value) (t : List UInt8) (w : World) (hk : k.length = 32) (hu : u.length = 16) (H1 : Bs w v1 t) : Ret Try.prog 6 [.agg (k.map byt).toArray, .agg (u.map byt).toArray, v1] w fun v w' => v = .bool true ∧ Below w.heap.size w w' := by
  refine ret_E Try.func6 rfl Try.ntmps6 (by simp) ?_
  refine EC_seq ?_
  refine EC_reg ?_
  refine EL_box (k.map byt) rfl rfl rfl ?_
  intro b11 w12 k13 A14 B15 z16
  have B18 : Below w.heap.size w w12 := B15
  have R17 : Bs w12 (.slice (some ⟨b11, 0, none⟩) 32 32) k := barr_row A14 (by omega) (by decide)
  have hnl : (nu k).length = 32 := by rw [nu_len]; exact hk
  have AK : Arr w12 b11 32 ((nu k).map (Value.int .u8)) := by rw [nu_map]; exact A14
  refine EL_box (u.map byt) rfl rfl rfl ?_
  intro b19 w20 k21 A22 B23 z24
  have B26 : Below w.heap.size w w20 := below_full B18 B18.size B23
  have B27 : Below w12.heap.size w12 w20 := B23
  have R25 : Bs w20 (.slice (some ⟨b19, 0, none⟩) 16 16) u := barr_row A22 (by omega) (by decide)
  refine EL_val (.bool false) w20 rfl (r_assign rfl) ?_
  refine EL_nil ?_
  refine thn_n ?_
  refine EC_seq ?_
  refine EC_seq ?_
  refine EC_reg ?_
  refine EL_ret [] rfl Try.func9 rfl nm9 rfl (anchor_c w20) ?_
  rintro _ w28 ⟨rfl, B29⟩
  have B30 : Below w.heap.size w w28 := below_full B26 B26.size B29
  have B31 : Below w12.heap.size w12 w28 := below_full B27 B27.size B29
  have B32 : Below w20.heap.size w20 w28 := B29
  refine EL_val (.bool false) w28 rfl (r_dec (show (!true) = false from rfl) (r_not rfl)) ?_
  refine EL_nil ?_
  refine thn_n ?_
  refine EC_cond_false rfl ?_
  refine EC_skip ?_
  refine thn_n ?_
  refine EC_seq ?_
  refine EC_seq ?_
  refine EC_reg ?_
  refine EL_val v1 w28 rfl (r_move rfl) ?_
  refine EL_val (.int .i64 (t.length : Int)) w28 rfl (lenB (r_len rfl (H1.below B30) Try.underlying22)) ?_
  refine EL_val (.bool (decide (300 < (t.length : Int)))) w28 rfl (r_gtr rfl rfl) ?_
  refine EL_nil ?_
  refine thn_n ?_
  refine EC_if (p := 300 < (t.length : Int)) rfl (fun h33 => ?_) (fun h33 => ?_)
  · refine EC_seq ?_
    refine EC_reg ?_
    refine EL_val (.bool true) w28 rfl (r_assign rfl) ?_
    refine EL_nil ?_
    refine thn_n ?_
    refine EC_ret ?_
    refine thn_r ?_
    refine fin1 Try.results6 (show _ = .bool true from rfl) ⟨_, rfl, ?_⟩
    exact ⟨rfl, B30⟩
  · refine EC_skip ?_
    refine thn_n ?_
    refine EC_seq ?_
    refine EC_reg ?_
    refine EL_val (.agg ((nu k).map (Value.int .u8)).toArray) w28 rfl (r_loadAll rfl (AK.below B31) Try.underlying32 rfl (Eq.trans (show _ = some 32 from by kernel_rfl) (congrArg some (by first | (simp; done) | (simp; omega) | rfl)))) ?_
    refine EL_alloc (z := .agg #[.int .u8 0, .int .u8 0, .int .u8 0, .int .u8 0, .int .u8 0, .int .u8 0, .int .u8 0, .int .u8 0, .int .u8 0, .int .u8 0, .int .u8 0, .int .u8 0, .int .u8 0, .int .u8 0, .int .u8 0, .int .u8 0, .int .u8 0, .int .u8 0, .int .u8 0, .int .u8 0, .int .u8 0, .int .u8 0, .int .u8 0, .int .u8 0, .int .u8 0, .int .u8 0, .int .u8 0, .int .u8 0, .int .u8 0, .int .u8 0, .int .u8 0, .int .u8 0]) (List.replicate 32 (.int .u8 0)) rfl (by kernel_rfl) rfl ?_
    intro b34 w35 k36 A37 B38 z39
    have ne40 : b11 < b34 := by have := ((AK.below B31)).lt; omega
    have B41 : Below w.heap.size w w35 := below_full B30 B30.size B38
    have B42 : Below w12.heap.size w12 w35 := below_full B31 B31.size B38
    have B43 : Below w20.heap.size w20 w35 := below_full B32 B32.size B38
    have B44 : Below w28.heap.size w28 w35 := B38
    have A37' : Arr w35 b34 32 ((List.replicate 32 0).map (Value.int .u8)) := A37
    refine EL_storeAll (v := .agg ((nu k).map (Value.int .u8)).toArray) (cs' := ((nu k).map (Value.int .u8)).toArray) rfl rfl rfl A37' (by first | rfl | (simp; done) | (simp; omega)) (Eq.trans (show _ = some 32 from by kernel_rfl) (congrArg some (by first | (simp; done) | (simp; omega) | rfl))) (ints_oneCell _ _) ?_
    intro w45 A46 K47 z48
    have A46' : Arr w45 b34 32 ((nu k).map (Value.int .u8)) := by simpa using A46
    have B49 : Below w.heap.size w w45 := below_kept B41 K47 (Nat.le_trans B30.size (Nat.le_of_eq k36.symm)) (B41.size)
    have B50 : Below w12.heap.size w12 w45 := below_kept B42 K47 (Nat.le_trans B31.size (Nat.le_of_eq k36.symm)) (B42.size)
    have B51 : Below w20.heap.size w20 w45 := below_kept B43 K47 (Nat.le_trans B32.size (Nat.le_of_eq k36.symm)) (B43.size)
    have B52 : Below w28.heap.size w28 w45 := below_kept B44 K47 (Nat.le_trans (Nat.le_refl _) (Nat.le_of_eq k36.symm)) (B44.size)
    have A53 : Arr w45 b11 32 ((nu k).map (Value.int .u8)) := (AK.below B42).grew K47 (by simp; omega)
    refine EL_nil ?_
    refine thn_n ?_
    refine EC_seq ?_
    refine EC_seq ?_
    refine EC_reg ?_
    refine EL_val (.int .i64 0) w45 rfl (r_move rfl) ?_
    refine EL_nil ?_
    refine thn_n ?_
    refine EC_block ?_
    refine EC_for 17 ?_
    refine U_step ?_
    refine EC_seq ?_
    refine EC_reg ?_
    refine EL_val (.bool true) w45 rfl (r_dec (by decide) (r_lss rfl rfl)) ?_
    refine EL_nil ?_
    refine thn_n ?_
    refine EC_seq ?_
    refine EC_cond_true rfl ?_
    refine EC_skip ?_
    refine thn_n ?_
    refine EC_seq ?_
    refine EC_block ?_
    refine EC_seq ?_
    refine EC_reg ?_
    refine EL_val (.int .i64 0) w45 rfl (r_move rfl) ?_
    refine EL_val (.int .i64 0) w45 rfl (r_assign rfl) ?_
    refine EL_nil ?_
    refine thn_n ?_
    refine EC_block ?_
    refine EC_seq ?_
    refine EC_reg ?_
    refine EL_val (.int .i64 0) w45 rfl (r_move rfl) ?_
    refine EL_val (.int .i64 0) w45 rfl (r_asn (by kernel_rfl) (r_rem rfl rfl (by decide))) ?_
    refine EL_val (.bool false) w45 rfl (r_dec (by decide) (r_eql rfl rfl)) ?_
    refine EL_val (.bool false) w45 rfl (r_assign rfl) ?_
    refine EL_nil ?_
    refine thn_n ?_
    refine EC_cond_false rfl ?_
    refine EC_seq ?_
    refine EC_reg ?_
    refine EL_val (.int .i64 0) w45 rfl (r_move rfl) ?_
    refine EL_val (.int .i64 0) w45 rfl (r_asn (by kernel_rfl) (r_rem rfl rfl (by decide))) ?_
    refine EL_val (.bool true) w45 rfl (r_dec (by decide) (r_eql rfl rfl)) ?_
    refine EL_val (.bool true) w45 rfl (r_move rfl) ?_
    refine EL_gval 39 rfl rfl rfl rfl (.int .i64 0) w45 rfl (r_move rfl) ?_
    refine EL_gval 39 rfl rfl rfl rfl (.bool false) w45 rfl (r_dec (by decide) (r_gtr rfl rfl)) ?_
    refine EL_val (.bool false) w45 rfl (r_pickT rfl rfl) ?_
    refine EL_val (.bool false) w45 rfl (r_assign rfl) ?_
    refine EL_nil ?_
    refine thn_n ?_
    refine EC_cond_false rfl ?_
    refine EC_skip ?_
    refine inB_n ?_
    refine inB_n ?_
    refine thn_n ?_
    refine EC_reg ?_
    refine EL_val (.int .i64 1) w45 rfl (r_asn (by kernel_rfl) (r_add rfl rfl)) ?_
    refine EL_val (.int .i64 1) w45 rfl (r_move rfl) ?_
    refine EL_nil ?_
    refine thn_n ?_
    refine U_step ?_
    refine EC_seq ?_
    refine EC_reg ?_
    refine EL_val (.bool true) w45 rfl (r_dec (by decide) (r_lss rfl rfl)) ?_
    refine EL_nil ?_
    refine thn_n ?_
    refine EC_seq ?_
    refine EC_cond_true rfl ?_
    refine EC_skip ?_
    refine thn_n ?_
    refine EC_seq ?_
    refine EC_block ?_
    refine EC_seq ?_
    refine EC_reg ?_
    refine EL_val (.int .i64 1) w45 rfl (r_move rfl) ?_
    refine EL_val (.int .i64 1) w45 rfl (r_assign rfl) ?_
    refine EL_nil ?_
    refine thn_n ?_
    refine EC_block ?_
    refine EC_seq ?_
    refine EC_reg ?_
    refine EL_val (.int .i64 1) w45 rfl (r_move rfl) ?_
    refine EL_val (.int .i64 1) w45 rfl (r_asn (by kernel_rfl) (r_rem rfl rfl (by decide))) ?_
    refine EL_val (.bool false) w45 rfl (r_dec (by decide) (r_eql rfl rfl)) ?_
    refine EL_val (.bool false) w45 rfl (r_assign rfl) ?_
    refine EL_nil ?_
    refine thn_n ?_
    refine EC_cond_false rfl ?_
    refine EC_seq ?_
    refine EC_reg ?_
    refine EL_val (.int .i64 1) w45 rfl (r_move rfl) ?_
    refine EL_val (.int .i64 1) w45 rfl (r_asn (by kernel_rfl) (r_rem rfl rfl (by decide))) ?_
    refine EL_val (.bool false) w45 rfl (r_dec (by decide) (r_eql rfl rfl)) ?_
    refine EL_val (.bool false) w45 rfl (r_move rfl) ?_
    refine EL_pass 39 rfl rfl rfl rfl rfl ?_
    refine EL_pass 39 rfl rfl rfl rfl rfl ?_
    refine EL_val (.bool false) w45 rfl (r_pickF rfl rfl) ?_
    refine EL_val (.bool false) w45 rfl (r_assign rfl) ?_
    refine EL_nil ?_
    refine thn_n ?_
    refine EC_cond_false rfl ?_
    refine EC_skip ?_
    refine inB_n ?_
    refine inB_n ?_
    refine thn_n ?_
    refine EC_reg ?_
    refine EL_val (.int .i64 2) w45 rfl (r_asn (by kernel_rfl) (r_add rfl rfl)) ?_
    refine EL_val (.int .i64 2) w45 rfl (r_move rfl) ?_
    refine EL_nil ?_
    refine thn_n ?_
    refine U_step ?_
    refine EC_seq ?_
    refine EC_reg ?_
    refine EL_val (.bool true) w45 rfl (r_dec (by decide) (r_lss rfl rfl)) ?_
    refine EL_nil ?_
    refine thn_n ?_
    refine EC_seq ?_
    refine EC_cond_true rfl ?_
    refine EC_skip ?_
    refine thn_n ?_
    refine EC_seq ?_
    refine EC_block ?_
    refine EC_seq ?_
    refine EC_reg ?_
    refine EL_val (.int .i64 2) w45 rfl (r_move rfl) ?_
    refine EL_val (.int .i64 2) w45 rfl (r_assign rfl) ?_
    refine EL_nil ?_
    refine thn_n ?_
    refine EC_block ?_
    refine EC_seq ?_
    refine EC_reg ?_
    refine EL_val (.int .i64 2) w45 rfl (r_move rfl) ?_
    refine EL_val (.int .i64 2) w45 rfl (r_asn (by kernel_rfl) (r_rem rfl rfl (by decide))) ?_
    refine EL_val (.bool false) w45 rfl (r_dec (by decide) (r_eql rfl rfl)) ?_
    refine EL_val (.bool false) w45 rfl (r_assign rfl) ?_
    refine EL_nil ?_
    refine thn_n ?_
    refine EC_cond_false rfl ?_
    refine EC_seq ?_
    refine EC_reg ?_
    refine EL_val (.int .i64 2) w45 rfl (r_move rfl) ?_
    refine EL_val (.int .i64 2) w45 rfl (r_asn (by kernel_rfl) (r_rem rfl rfl (by decide))) ?_
    refine EL_val (.bool false) w45 rfl (r_dec (by decide) (r_eql rfl rfl)) ?_
    refine EL_val (.bool false) w45 rfl (r_move rfl) ?_
    refine EL_pass 39 rfl rfl rfl rfl rfl ?_
    refine EL_pass 39 rfl rfl rfl rfl rfl ?_
    refine EL_val (.bool false) w45 rfl (r_pickF rfl rfl) ?_
    refine EL_val (.bool false) w45 rfl (r_assign rfl) ?_
    refine EL_nil ?_
    refine thn_n ?_
    refine EC_cond_false rfl ?_
    refine EC_skip ?_
    refine inB_n ?_
    refine inB_n ?_
    refine thn_n ?_
    refine EC_reg ?_
    refine EL_val (.int .i64 3) w45 rfl (r_asn (by kernel_rfl) (r_add rfl rfl)) ?_
    refine EL_val (.int .i64 3) w45 rfl (r_move rfl) ?_
    refine EL_nil ?_
    refine thn_n ?_
    refine U_step ?_
    refine EC_seq ?_
    refine EC_reg ?_
    refine EL_val (.bool true) w45 rfl (r_dec (by decide) (r_lss rfl rfl)) ?_
    refine EL_nil ?_
    refine thn_n ?_
    refine EC_seq ?_
    refine EC_cond_true rfl ?_
    refine EC_skip ?_
    refine thn_n ?_
    refine EC_seq ?_
    refine EC_block ?_
    refine EC_seq ?_
    refine EC_reg ?_
    refine EL_val (.int .i64 3) w45 rfl (r_move rfl) ?_
    refine EL_val (.int .i64 3) w45 rfl (r_assign rfl) ?_
    refine EL_nil ?_
    refine thn_n ?_
    refine EC_block ?_
    refine EC_seq ?_
    refine EC_reg ?_
    refine EL_val (.int .i64 3) w45 rfl (r_move rfl) ?_
    refine EL_val (.int .i64 3) w45 rfl (r_asn (by kernel_rfl) (r_rem rfl rfl (by decide))) ?_
    refine EL_val (.bool true) w45 rfl (r_dec (by decide) (r_eql rfl rfl)) ?_
    refine EL_val (.bool true) w45 rfl (r_assign rfl) ?_
    refine EL_nil ?_
    refine thn_n ?_
    refine EC_cond_true rfl ?_
    refine EC_until 9 (by kernel_rfl) ?_
    intro w54 B55 z56
    have B57 : Below w.heap.size w w54 := below_full B49 B49.size B55
    have B58 : Below w12.heap.size w12 w54 := below_full B50 B50.size B55
    have B59 : Below w20.heap.size w20 w54 := below_full B51 B51.size B55
    have B60 : Below w28.heap.size w28 w54 := below_full B52 B52.size B55
    have B61 : Below w45.heap.size w45 w54 := B55
    refine EH_take 0 rfl (by kernel_rfl) (by kernel_rfl) (by kernel_rfl) rfl 40 (by kernel_rfl) (.int .i64 3) rfl (fun _ hw => r_move rfl) (Below.refl _ _) ?_
    refine EH_take 1 rfl (by kernel_rfl) (by kernel_rfl) (by kernel_rfl) rfl 40 (by kernel_rfl) (ptr b34 3) rfl (fun _ hw => r_indexA (i := 3) rfl rfl (by omega) (by omega) Try.underlying32 (by kernel_rfl)) (Below.refl _ _) ?_
    obtain ⟨x62, hx63⟩ := get_some (l := nu k) (j := 3) (by first | omega | (simp; omega) | simp)
    have dhx63 := dig_get (dig_num k) hx63
    have ghx63 : bi k 3 = x62 := by rw [bi_nu]; exact getD_of (by simpa [List.getElem?_set] using hx63)
    refine EH_take 2 rfl (by kernel_rfl) (by kernel_rfl) (by kernel_rfl) rfl 40 (by kernel_rfl) (.int .u8 x62) rfl (fun _ hw => r_loadA rfl ((A46'.below B61).below hw) (int_get hx63) Try.underlying5 rfl) (Below.refl _ _) ?_
    refine EH_take 3 rfl (by kernel_rfl) (by kernel_rfl) (by kernel_rfl) rfl 40 (by kernel_rfl) (.int .i64 3) rfl (fun _ hw => r_move rfl) (Below.refl _ _) ?_
    refine EH_take 4 rfl (by kernel_rfl) (by kernel_rfl) (by kernel_rfl) rfl 40 (by kernel_rfl) (ptr b19 3) rfl (fun _ hw => r_indexA (i := 3) rfl rfl (by omega) (by omega) Try.underlying30 (by kernel_rfl)) (Below.refl _ _) ?_
    obtain ⟨b64, hb65⟩ := get_some (l := u) (j := 3) (by first | omega | (simp; omega) | simp)
    have hb66 := b64.toNat_lt
    refine EH_take 5 rfl (by kernel_rfl) (by kernel_rfl) (by kernel_rfl) rfl 40 (by kernel_rfl) (.int .u8 (b64.toNat : Int)) rfl (fun _ hw => r_load rfl (row_cellA ((R25.below B59).below hw) hb65) Try.underlying5 rfl) (Below.refl _ _) ?_
    refine EH_take 6 rfl (by kernel_rfl) (by kernel_rfl) (by kernel_rfl) rfl 40 (by kernel_rfl) (.int .u8 (a8 (b64.toNat : Int) 240)) rfl (fun _ hw => r_and8 (k := 240) rfl rfl rfl (by decide) (by omega)) (Below.refl _ _) ?_
    have ba67 := a8_bd (m := (b64.toNat : Int)) 240 (by omega)
    obtain ⟨x68, hx68⟩ : ∃ z : Int, z = x8 x62 (a8 (b64.toNat : Int) 240) := ⟨_, rfl⟩
    have bx69 := x8_bd (m := x62) (n := a8 (b64.toNat : Int) 240) (by omega) (by omega)
    rw [← hx68] at bx69
    have qx68 : x68 % 16 = bi k 3 % 16 := by rw [hx68, ghx63]; exact x8_hi (by omega)
    refine EH_take 7 rfl (by kernel_rfl) (by kernel_rfl) (by kernel_rfl) rfl 40 (by kernel_rfl) (.int .u8 x68) rfl (fun _ hw => by rw [hx68]; exact r_xor8 rfl rfl (by omega) (by omega)) (Below.refl _ _) ?_
    refine EH_take 8 rfl (by kernel_rfl) (by kernel_rfl) (by kernel_rfl) rfl 40 (by kernel_rfl) (ptr b34 3) rfl (fun _ hw => r_indexA (i := 3) rfl rfl (by omega) (by omega) Try.underlying32 (by kernel_rfl)) (Below.refl _ _) ?_
    refine EH_one 9 (by kernel_rfl) ⟨_, rfl, ?_⟩
    refine EL_storeA (j := 3) (u := .int .u8 x68) rfl rfl (A46'.below B61) (by first | (simp; omega) | simp) rfl (by kernel_rfl) ?_
    intro w70 A71 K72 z73
    have A71' : Arr w70 b34 32 (((nu k).set 3 x68).map (Value.int .u8)) := by simpa [List.map_set] using A71
    have B74 : Below w.heap.size w w70 := below_kept B57 K72 (Nat.le_trans B30.size (Nat.le_of_eq k36.symm)) (B57.size)
    have B75 : Below w12.heap.size w12 w70 := below_kept B58 K72 (Nat.le_trans B31.size (Nat.le_of_eq k36.symm)) (B58.size)
    have B76 : Below w20.heap.size w20 w70 := below_kept B59 K72 (Nat.le_trans B32.size (Nat.le_of_eq k36.symm)) (B59.size)
    have B77 : Below w28.heap.size w28 w70 := below_kept B60 K72 (Nat.le_trans (Nat.le_refl _) (Nat.le_of_eq k36.symm)) (B60.size)
    have A78 : Arr w70 b11 32 ((nu k).map (Value.int .u8)) := (A53.below B61).grew K72 (by simp; omega)
    refine EL_nil ?_
    refine ⟨rfl, .inl (by kernel_rfl), ?_⟩
    refine EH_done (by kernel_rfl) ?_
    refine inB_n ?_
    refine inB_n ?_
    refine thn_n ?_
    refine EC_reg ?_
    refine EL_val (.int .i64 4) w70 rfl (r_asn (by kernel_rfl) (r_add rfl rfl)) ?_
    refine EL_val (.int .i64 4) w70 rfl (r_move rfl) ?_
    refine EL_nil ?_
    refine thn_n ?_
    refine U_step ?_
    refine EC_seq ?_
    refine EC_reg ?_
    refine EL_val (.bool true) w70 rfl (r_dec (by decide) (r_lss rfl rfl)) ?_
    refine EL_nil ?_
    refine thn_n ?_
    refine EC_seq ?_
    refine EC_cond_true rfl ?_
    refine EC_skip ?_
    refine thn_n ?_
    refine EC_seq ?_
    refine EC_block ?_
    refine EC_seq ?_
    refine EC_reg ?_
    refine EL_val (.int .i64 4) w70 rfl (r_move rfl) ?_
    refine EL_val (.int .i64 4) w70 rfl (r_assign rfl) ?_
    refine EL_nil ?_
    refine thn_n ?_
    refine EC_block ?_
    refine EC_seq ?_
    refine EC_reg ?_
    refine EL_val (.int .i64 4) w70 rfl (r_move rfl) ?_
    refine EL_val (.int .i64 0) w70 rfl (r_asn (by kernel_rfl) (r_rem rfl rfl (by decide))) ?_
    refine EL_val (.bool false) w70 rfl (r_dec (by decide) (r_eql rfl rfl)) ?_
    refine EL_val (.bool false) w70 rfl (r_assign rfl) ?_
    refine EL_nil ?_
    refine thn_n ?_
    refine EC_cond_false rfl ?_
    refine EC_seq ?_
    refine EC_reg ?_
    refine EL_val (.int .i64 4) w70 rfl (r_move rfl) ?_
    refine EL_val (.int .i64 0) w70 rfl (r_asn (by kernel_rfl) (r_rem rfl rfl (by decide))) ?_
    refine EL_val (.bool true) w70 rfl (r_dec (by decide) (r_eql rfl rfl)) ?_
    refine EL_val (.bool true) w70 rfl (r_move rfl) ?_
    refine EL_gval 39 rfl rfl rfl rfl (.int .i64 4) w70 rfl (r_move rfl) ?_
    refine EL_gval 39 rfl rfl rfl rfl (.bool true) w70 rfl (r_dec (by decide) (r_gtr rfl rfl)) ?_
    refine EL_val (.bool true) w70 rfl (r_pickT rfl rfl) ?_
    refine EL_val (.bool true) w70 rfl (r_assign rfl) ?_
    refine EL_nil ?_
    refine thn_n ?_
    refine EC_cond_true rfl ?_
    refine EC_until 9 (by kernel_rfl) ?_
    intro w79 B80 z81
    have B82 : Below w.heap.size w w79 := below_full B74 B74.size B80
    have B83 : Below w12.heap.size w12 w79 := below_full B75 B75.size B80
    have B84 : Below w20.heap.size w20 w79 := below_full B76 B76.size B80
    have B85 : Below w28.heap.size w28 w79 := below_full B77 B77.size B80
    have B86 : Below w70.heap.size w70 w79 := B80
    refine EH_take 0 rfl (by kernel_rfl) (by kernel_rfl) (by kernel_rfl) rfl 40 (by kernel_rfl) (.int .i64 4) rfl (fun _ hw => r_move rfl) (Below.refl _ _) ?_
    refine EH_take 1 rfl (by kernel_rfl) (by kernel_rfl) (by kernel_rfl) rfl 40 (by kernel_rfl) (ptr b34 4) rfl (fun _ hw => r_indexA (i := 4) rfl rfl (by omega) (by omega) Try.underlying32 (by kernel_rfl)) (Below.refl _ _) ?_
    obtain ⟨x87, hx88⟩ := get_some (l := (nu k).set 3 x68) (j := 4) (by first | omega | (simp; omega) | simp)
    have dhx88 := dig_get (dig_set (dig_num k) 3 (by omega)) hx88
    have ghx88 : bi k 4 = x87 := by rw [bi_nu]; exact getD_of (by simpa [List.getElem?_set] using hx88)
    refine EH_take 2 rfl (by kernel_rfl) (by kernel_rfl) (by kernel_rfl) rfl 40 (by kernel_rfl) (.int .u8 x87) rfl (fun _ hw => r_loadA rfl ((A71'.below B86).below hw) (int_get hx88) Try.underlying5 rfl) (Below.refl _ _) ?_
    refine EH_take 3 rfl (by kernel_rfl) (by kernel_rfl) (by kernel_rfl) rfl 40 (by kernel_rfl) (.int .i64 4) rfl (fun _ hw => r_move rfl) (Below.refl _ _) ?_
    refine EH_take 4 rfl (by kernel_rfl) (by kernel_rfl) (by kernel_rfl) rfl 40 (by kernel_rfl) (ptr b19 4) rfl (fun _ hw => r_indexA (i := 4) rfl rfl (by omega) (by omega) Try.underlying30 (by kernel_rfl)) (Below.refl _ _) ?_
    obtain ⟨b89, hb90⟩ := get_some (l := u) (j := 4) (by first | omega | (simp; omega) | simp)
    have hb91 := b89.toNat_lt
    refine EH_take 5 rfl (by kernel_rfl) (by kernel_rfl) (by kernel_rfl) rfl 40 (by kernel_rfl) (.int .u8 (b89.toNat : Int)) rfl (fun _ hw => r_load rfl (row_cellA ((R25.below B84).below hw) hb90) Try.underlying5 rfl) (Below.refl _ _) ?_
    refine EH_take 6 rfl (by kernel_rfl) (by kernel_rfl) (by kernel_rfl) rfl 40 (by kernel_rfl) (.int .u8 (a8 (b89.toNat : Int) 3)) rfl (fun _ hw => r_and8 (k := 3) rfl rfl rfl (by decide) (by omega)) (Below.refl _ _) ?_
    have ba92 := a8_bd (m := (b89.toNat : Int)) 3 (by omega)
    obtain ⟨x93, hx93⟩ : ∃ z : Int, z = x8 x87 (a8 (b89.toNat : Int) 3) := ⟨_, rfl⟩
    have bx94 := x8_bd (m := x87) (n := a8 (b89.toNat : Int) 3) (by omega) (by omega)
    rw [← hx93] at bx94
    have qx93 : x93 / 4 = bi k 4 / 4 := by rw [hx93, ghx88]; exact x8_lo (by omega)
    refine EH_take 7 rfl (by kernel_rfl) (by kernel_rfl) (by kernel_rfl) rfl 40 (by kernel_rfl) (.int .u8 x93) rfl (fun _ hw => by rw [hx93]; exact r_xor8 rfl rfl (by omega) (by omega)) (Below.refl _ _) ?_
    refine EH_take 8 rfl (by kernel_rfl) (by kernel_rfl) (by kernel_rfl) rfl 40 (by kernel_rfl) (ptr b34 4) rfl (fun _ hw => r_indexA (i := 4) rfl rfl (by omega) (by omega) Try.underlying32 (by kernel_rfl)) (Below.refl _ _) ?_
    refine EH_one 9 (by kernel_rfl) ⟨_, rfl, ?_⟩
    refine EL_storeA (j := 4) (u := .int .u8 x93) rfl rfl (A71'.below B86) (by first | (simp; omega) | simp) rfl (by kernel_rfl) ?_
    intro w95 A96 K97 z98
    have A96' : Arr w95 b34 32 ((((nu k).set 3 x68).set 4 x93).map (Value.int .u8)) := by simpa [List.map_set] using A96
    have B99 : Below w.heap.size w w95 := below_kept B82 K97 (Nat.le_trans B30.size (Nat.le_of_eq k36.symm)) (B82.size)
    have B100 : Below w12.heap.size w12 w95 := below_kept B83 K97 (Nat.le_trans B31.size (Nat.le_of_eq k36.symm)) (B83.size)
    have B101 : Below w20.heap.size w20 w95 := below_kept B84 K97 (Nat.le_trans B32.size (Nat.le_of_eq k36.symm)) (B84.size)
    have B102 : Below w28.heap.size w28 w95 := below_kept B85 K97 (Nat.le_trans (Nat.le_refl _) (Nat.le_of_eq k36.symm)) (B85.size)
    have A103 : Arr w95 b11 32 ((nu k).map (Value.int .u8)) := (A78.below B86).grew K97 (by simp; omega)
    refine EL_nil ?_
    refine ⟨rfl, .inl (by kernel_rfl), ?_⟩
    refine EH_done (by kernel_rfl) ?_
    refine inB_n ?_
    refine inB_n ?_
    refine thn_n ?_
    refine EC_reg ?_
    refine EL_val (.int .i64 5) w95 rfl (r_asn (by kernel_rfl) (r_add rfl rfl)) ?_
    refine EL_val (.int .i64 5) w95 rfl (r_move rfl) ?_
    refine EL_nil ?_
    refine thn_n ?_
    refine U_step ?_
    refine EC_seq ?_
    refine EC_reg ?_
    refine EL_val (.bool true) w95 rfl (r_dec (by decide) (r_lss rfl rfl)) ?_
    refine EL_nil ?_
    refine thn_n ?_
    refine EC_seq ?_
    refine EC_cond_true rfl ?_
    refine EC_skip ?_
    refine thn_n ?_
    refine EC_seq ?_
    refine EC_block ?_
    refine EC_seq ?_
    refine EC_reg ?_
    refine EL_val (.int .i64 5) w95 rfl (r_move rfl) ?_
    refine EL_val (.int .i64 5) w95 rfl (r_assign rfl) ?_
    refine EL_nil ?_
    refine thn_n ?_
    refine EC_block ?_
    refine EC_seq ?_
    refine EC_reg ?_
    refine EL_val (.int .i64 5) w95 rfl (r_move rfl) ?_
    refine EL_val (.int .i64 1) w95 rfl (r_asn (by kernel_rfl) (r_rem rfl rfl (by decide))) ?_
    refine EL_val (.bool false) w95 rfl (r_dec (by decide) (r_eql rfl rfl)) ?_
    refine EL_val (.bool false) w95 rfl (r_assign rfl) ?_
    refine EL_nil ?_
    refine thn_n ?_
    refine EC_cond_false rfl ?_
    refine EC_seq ?_
    refine EC_reg ?_
    refine EL_val (.int .i64 5) w95 rfl (r_move rfl) ?_
    refine EL_val (.int .i64 1) w95 rfl (r_asn (by kernel_rfl) (r_rem rfl rfl (by decide))) ?_
    refine EL_val (.bool false) w95 rfl (r_dec (by decide) (r_eql rfl rfl)) ?_
    refine EL_val (.bool false) w95 rfl (r_move rfl) ?_
    refine EL_pass 39 rfl rfl rfl rfl rfl ?_
    refine EL_pass 39 rfl rfl rfl rfl rfl ?_
    refine EL_val (.bool false) w95 rfl (r_pickF rfl rfl) ?_
    refine EL_val (.bool false) w95 rfl (r_assign rfl) ?_
    refine EL_nil ?_
    refine thn_n ?_
    refine EC_cond_false rfl ?_
    refine EC_skip ?_
    refine inB_n ?_
    refine inB_n ?_
    refine thn_n ?_
    refine EC_reg ?_
    refine EL_val (.int .i64 6) w95 rfl (r_asn (by kernel_rfl) (r_add rfl rfl)) ?_
    refine EL_val (.int .i64 6) w95 rfl (r_move rfl) ?_
    refine EL_nil ?_
    refine thn_n ?_
    refine U_step ?_
    refine EC_seq ?_
    refine EC_reg ?_
    refine EL_val (.bool true) w95 rfl (r_dec (by decide) (r_lss rfl rfl)) ?_
    refine EL_nil ?_
    refine thn_n ?_
    refine EC_seq ?_
    refine EC_cond_true rfl ?_
    refine EC_skip ?_
    refine thn_n ?_
    refine EC_seq ?_
    refine EC_block ?_
    refine EC_seq ?_
    refine EC_reg ?_
    refine EL_val (.int .i64 6) w95 rfl (r_move rfl) ?_
    refine EL_val (.int .i64 6) w95 rfl (r_assign rfl) ?_
    refine EL_nil ?_
    refine thn_n ?_
    refine EC_block ?_
    refine EC_seq ?_
    refine EC_reg ?_
    refine EL_val (.int .i64 6) w95 rfl (r_move rfl) ?_
    refine EL_val (.int .i64 2) w95 rfl (r_asn (by kernel_rfl) (r_rem rfl rfl (by decide))) ?_
    refine EL_val (.bool false) w95 rfl (r_dec (by decide) (r_eql rfl rfl)) ?_
    refine EL_val (.bool false) w95 rfl (r_assign rfl) ?_
    refine EL_nil ?_
    refine thn_n ?_
    refine EC_cond_false rfl ?_
    refine EC_seq ?_
    refine EC_reg ?_
    refine EL_val (.int .i64 6) w95 rfl (r_move rfl) ?_
    refine EL_val (.int .i64 2) w95 rfl (r_asn (by kernel_rfl) (r_rem rfl rfl (by decide))) ?_
    refine EL_val (.bool false) w95 rfl (r_dec (by decide) (r_eql rfl rfl)) ?_
    refine EL_val (.bool false) w95 rfl (r_move rfl) ?_
    refine EL_pass 39 rfl rfl rfl rfl rfl ?_
    refine EL_pass 39 rfl rfl rfl rfl rfl ?_
    refine EL_val (.bool false) w95 rfl (r_pickF rfl rfl) ?_
    refine EL_val (.bool false) w95 rfl (r_assign rfl) ?_
    refine EL_nil ?_
    refine thn_n ?_
    refine EC_cond_false rfl ?_
    refine EC_skip ?_
    refine inB_n ?_
    refine inB_n ?_
    refine thn_n ?_
    refine EC_reg ?_
    refine EL_val (.int .i64 7) w95 rfl (r_asn (by kernel_rfl) (r_add rfl rfl)) ?_
    refine EL_val (.int .i64 7) w95 rfl (r_move rfl) ?_
    refine EL_nil ?_
    refine thn_n ?_
    refine U_step ?_
    refine EC_seq ?_
    refine EC_reg ?_
    refine EL_val (.bool true) w95 rfl (r_dec (by decide) (r_lss rfl rfl)) ?_
    refine EL_nil ?_
    refine thn_n ?_
    refine EC_seq ?_
    refine EC_cond_true rfl ?_
    refine EC_skip ?_
    refine thn_n ?_
    refine EC_seq ?_
    refine EC_block ?_
    refine EC_seq ?_
    refine EC_reg ?_
    refine EL_val (.int .i64 7) w95 rfl (r_move rfl) ?_
    refine EL_val (.int .i64 7) w95 rfl (r_assign rfl) ?_
    refine EL_nil ?_
    refine thn_n ?_
    refine EC_block ?_
    refine EC_seq ?_
    refine EC_reg ?_
    refine EL_val (.int .i64 7) w95 rfl (r_move rfl) ?_
    refine EL_val (.int .i64 3) w95 rfl (r_asn (by kernel_rfl) (r_rem rfl rfl (by decide))) ?_
    refine EL_val (.bool true) w95 rfl (r_dec (by decide) (r_eql rfl rfl)) ?_
    refine EL_val (.bool true) w95 rfl (r_assign rfl) ?_
    refine EL_nil ?_
    refine thn_n ?_
    refine EC_cond_true rfl ?_
    refine EC_until 9 (by kernel_rfl) ?_
    intro w104 B105 z106
    have B107 : Below w.heap.size w w104 := below_full B99 B99.size B105
    have B108 : Below w12.heap.size w12 w104 := below_full B100 B100.size B105
    have B109 : Below w20.heap.size w20 w104 := below_full B101 B101.size B105
    have B110 : Below w28.heap.size w28 w104 := below_full B102 B102.size B105
    have B111 : Below w95.heap.size w95 w104 := B105
    refine EH_take 0 rfl (by kernel_rfl) (by kernel_rfl) (by kernel_rfl) rfl 40 (by kernel_rfl) (.int .i64 7) rfl (fun _ hw => r_move rfl) (Below.refl _ _) ?_
    refine EH_take 1 rfl (by kernel_rfl) (by kernel_rfl) (by kernel_rfl) rfl 40 (by kernel_rfl) (ptr b34 7) rfl (fun _ hw => r_indexA (i := 7) rfl rfl (by omega) (by omega) Try.underlying32 (by kernel_rfl)) (Below.refl _ _) ?_
    obtain ⟨x112, hx113⟩ := get_some (l := ((nu k).set 3 x68).set 4 x93) (j := 7) (by first | omega | (simp; omega) | simp)
    have dhx113 := dig_get (dig_set (dig_set (dig_num k) 3 (by omega)) 4 (by omega)) hx113
    have ghx113 : bi k 7 = x112 := by rw [bi_nu]; exact getD_of (by simpa [List.getElem?_set] using hx113)
    refine EH_take 2 rfl (by kernel_rfl) (by kernel_rfl) (by kernel_rfl) rfl 40 (by kernel_rfl) (.int .u8 x112) rfl (fun _ hw => r_loadA rfl ((A96'.below B111).below hw) (int_get hx113) Try.underlying5 rfl) (Below.refl _ _) ?_
    refine EH_take 3 rfl (by kernel_rfl) (by kernel_rfl) (by kernel_rfl) rfl 40 (by kernel_rfl) (.int .i64 7) rfl (fun _ hw => r_move rfl) (Below.refl _ _) ?_
    refine EH_take 4 rfl (by kernel_rfl) (by kernel_rfl) (by kernel_rfl) rfl 40 (by kernel_rfl) (ptr b19 7) rfl (fun _ hw => r_indexA (i := 7) rfl rfl (by omega) (by omega) Try.underlying30 (by kernel_rfl)) (Below.refl _ _) ?_
    obtain ⟨b114, hb115⟩ := get_some (l := u) (j := 7) (by first | omega | (simp; omega) | simp)
    have hb116 := b114.toNat_lt
    refine EH_take 5 rfl (by kernel_rfl) (by kernel_rfl) (by kernel_rfl) rfl 40 (by kernel_rfl) (.int .u8 (b114.toNat : Int)) rfl (fun _ hw => r_load rfl (row_cellA ((R25.below B109).below hw) hb115) Try.underlying5 rfl) (Below.refl _ _) ?_
    refine EH_take 6 rfl (by kernel_rfl) (by kernel_rfl) (by kernel_rfl) rfl 40 (by kernel_rfl) (.int .u8 (a8 (b114.toNat : Int) 240)) rfl (fun _ hw => r_and8 (k := 240) rfl rfl rfl (by decide) (by omega)) (Below.refl _ _) ?_
    have ba117 := a8_bd (m := (b114.toNat : Int)) 240 (by omega)
    obtain ⟨x118, hx118⟩ : ∃ z : Int, z = x8 x112 (a8 (b114.toNat : Int) 240) := ⟨_, rfl⟩
    have bx119 := x8_bd (m := x112) (n := a8 (b114.toNat : Int) 240) (by omega) (by omega)
    rw [← hx118] at bx119
    have qx118 : x118 % 16 = bi k 7 % 16 := by rw [hx118, ghx113]; exact x8_hi (by omega)
    refine EH_take 7 rfl (by kernel_rfl) (by kernel_rfl) (by kernel_rfl) rfl 40 (by kernel_rfl) (.int .u8 x118) rfl (fun _ hw => by rw [hx118]; exact r_xor8 rfl rfl (by omega) (by omega)) (Below.refl _ _) ?_
    refine EH_take 8 rfl (by kernel_rfl) (by kernel_rfl) (by kernel_rfl) rfl 40 (by kernel_rfl) (ptr b34 7) rfl (fun _ hw => r_indexA (i := 7) rfl rfl (by omega) (by omega) Try.underlying32 (by kernel_rfl)) (Below.refl _ _) ?_
    refine EH_one 9 (by kernel_rfl) ⟨_, rfl, ?_⟩
    refine EL_storeA (j := 7) (u := .int .u8 x118) rfl rfl (A96'.below B111) (by first | (simp; omega) | simp) rfl (by kernel_rfl) ?_
    intro w120 A121 K122 z123
    have A121' : Arr w120 b34 32 (((((nu k).set 3 x68).set 4 x93).set 7 x118).map (Value.int .u8)) := by simpa [List.map_set] using A121
    have B124 : Below w.heap.size w w120 := below_kept B107 K122 (Nat.le_trans B30.size (Nat.le_of_eq k36.symm)) (B107.size)
    have B125 : Below w12.heap.size w12 w120 := below_kept B108 K122 (Nat.le_trans B31.size (Nat.le_of_eq k36.symm)) (B108.size)
    have B126 : Below w20.heap.size w20 w120 := below_kept B109 K122 (Nat.le_trans B32.size (Nat.le_of_eq k36.symm)) (B109.size)
    have B127 : Below w28.heap.size w28 w120 := below_kept B110 K122 (Nat.le_trans (Nat.le_refl _) (Nat.le_of_eq k36.symm)) (B110.size)
    have A128 : Arr w120 b11 32 ((nu k).map (Value.int .u8)) := (A103.below B111).grew K122 (by simp; omega)
    refine EL_nil ?_
    refine ⟨rfl, .inl (by kernel_rfl), ?_⟩
    refine EH_done (by kernel_rfl) ?_
    refine inB_n ?_
    refine inB_n ?_
    refine thn_n ?_
    refine EC_reg ?_
    refine EL_val (.int .i64 8) w120 rfl (r_asn (by kernel_rfl) (r_add rfl rfl)) ?_
    refine EL_val (.int .i64 8) w120 rfl (r_move rfl) ?_
    refine EL_nil ?_
    refine thn_n ?_
    refine U_step ?_
    refine EC_seq ?_
    refine EC_reg ?_
    refine EL_val (.bool true) w120 rfl (r_dec (by decide) (r_lss rfl rfl)) ?_
    refine EL_nil ?_
    refine thn_n ?_
    refine EC_seq ?_
    refine EC_cond_true rfl ?_
    refine EC_skip ?_
    refine thn_n ?_
    refine EC_seq ?_
    refine EC_block ?_
    refine EC_seq ?_
    refine EC_reg ?_
    refine EL_val (.int .i64 8) w120 rfl (r_move rfl) ?_
    refine EL_val (.int .i64 8) w120 rfl (r_assign rfl) ?_
    refine EL_nil ?_
    refine thn_n ?_
    refine EC_block ?_
    refine EC_seq ?_
    refine EC_reg ?_
    refine EL_val (.int .i64 8) w120 rfl (r_move rfl) ?_
    refine EL_val (.int .i64 0) w120 rfl (r_asn (by kernel_rfl) (r_rem rfl rfl (by decide))) ?_
    refine EL_val (.bool false) w120 rfl (r_dec (by decide) (r_eql rfl rfl)) ?_
    refine EL_val (.bool false) w120 rfl (r_assign rfl) ?_
    refine EL_nil ?_
    refine thn_n ?_
    refine EC_cond_false rfl ?_
    refine EC_seq ?_
    refine EC_reg ?_
    refine EL_val (.int .i64 8) w120 rfl (r_move rfl) ?_
    refine EL_val (.int .i64 0) w120 rfl (r_asn (by kernel_rfl) (r_rem rfl rfl (by decide))) ?_
    refine EL_val (.bool true) w120 rfl (r_dec (by decide) (r_eql rfl rfl)) ?_
    refine EL_val (.bool true) w120 rfl (r_move rfl) ?_
    refine EL_gval 39 rfl rfl rfl rfl (.int .i64 8) w120 rfl (r_move rfl) ?_
    refine EL_gval 39 rfl rfl rfl rfl (.bool true) w120 rfl (r_dec (by decide) (r_gtr rfl rfl)) ?_
    refine EL_val (.bool true) w120 rfl (r_pickT rfl rfl) ?_
    refine EL_val (.bool true) w120 rfl (r_assign rfl) ?_
    refine EL_nil ?_
    refine thn_n ?_
    refine EC_cond_true rfl ?_
    refine EC_until 9 (by kernel_rfl) ?_
    intro w129 B130 z131
    have B132 : Below w.heap.size w w129 := below_full B124 B124.size B130
    have B133 : Below w12.heap.size w12 w129 := below_full B125 B125.size B130
    have B134 : Below w20.heap.size w20 w129 := below_full B126 B126.size B130
    have B135 : Below w28.heap.size w28 w129 := below_full B127 B127.size B130
    have B136 : Below w120.heap.size w120 w129 := B130
    refine EH_take 0 rfl (by kernel_rfl) (by kernel_rfl) (by kernel_rfl) rfl 40 (by kernel_rfl) (.int .i64 8) rfl (fun _ hw => r_move rfl) (Below.refl _ _) ?_
    refine EH_take 1 rfl (by kernel_rfl) (by kernel_rfl) (by kernel_rfl) rfl 40 (by kernel_rfl) (ptr b34 8) rfl (fun _ hw => r_indexA (i := 8) rfl rfl (by omega) (by omega) Try.underlying32 (by kernel_rfl)) (Below.refl _ _) ?_
    obtain ⟨x137, hx138⟩ := get_some (l := (((nu k).set 3 x68).set 4 x93).set 7 x118) (j := 8) (by first | omega | (simp; omega) | simp)
    have dhx138 := dig_get (dig_set (dig_set (dig_set (dig_num k) 3 (by omega)) 4 (by omega)) 7 (by omega)) hx138
    have ghx138 : bi k 8 = x137 := by rw [bi_nu]; exact getD_of (by simpa [List.getElem?_set] using hx138)
    refine EH_take 2 rfl (by kernel_rfl) (by kernel_rfl) (by kernel_rfl) rfl 40 (by kernel_rfl) (.int .u8 x137) rfl (fun _ hw => r_loadA rfl ((A121'.below B136).below hw) (int_get hx138) Try.underlying5 rfl) (Below.refl _ _) ?_
    refine EH_take 3 rfl (by kernel_rfl) (by kernel_rfl) (by kernel_rfl) rfl 40 (by kernel_rfl) (.int .i64 8) rfl (fun _ hw => r_move rfl) (Below.refl _ _) ?_
    refine EH_take 4 rfl (by kernel_rfl) (by kernel_rfl) (by kernel_rfl) rfl 40 (by kernel_rfl) (ptr b19 8) rfl (fun _ hw => r_indexA (i := 8) rfl rfl (by omega) (by omega) Try.underlying30 (by kernel_rfl)) (Below.refl _ _) ?_
    obtain ⟨b139, hb140⟩ := get_some (l := u) (j := 8) (by first | omega | (simp; omega) | simp)
    have hb141 := b139.toNat_lt
    refine EH_take 5 rfl (by kernel_rfl) (by kernel_rfl) (by kernel_rfl) rfl 40 (by kernel_rfl) (.int .u8 (b139.toNat : Int)) rfl (fun _ hw => r_load rfl (row_cellA ((R25.below B134).below hw) hb140) Try.underlying5 rfl) (Below.refl _ _) ?_
    refine EH_take 6 rfl (by kernel_rfl) (by kernel_rfl) (by kernel_rfl) rfl 40 (by kernel_rfl) (.int .u8 (a8 (b139.toNat : Int) 3)) rfl (fun _ hw => r_and8 (k := 3) rfl rfl rfl (by decide) (by omega)) (Below.refl _ _) ?_
    have ba142 := a8_bd (m := (b139.toNat : Int)) 3 (by omega)
    obtain ⟨x143, hx143⟩ : ∃ z : Int, z = x8 x137 (a8 (b139.toNat : Int) 3) := ⟨_, rfl⟩
    have bx144 := x8_bd (m := x137) (n := a8 (b139.toNat : Int) 3) (by omega) (by omega)
    rw [← hx143] at bx144
    have qx143 : x143 / 4 = bi k 8 / 4 := by rw [hx143, ghx138]; exact x8_lo (by omega)
    refine EH_take 7 rfl (by kernel_rfl) (by kernel_rfl) (by kernel_rfl) rfl 40 (by kernel_rfl) (.int .u8 x143) rfl (fun _ hw => by rw [hx143]; exact r_xor8 rfl rfl (by omega) (by omega)) (Below.refl _ _) ?_
    refine EH_take 8 rfl (by kernel_rfl) (by kernel_rfl) (by kernel_rfl) rfl 40 (by kernel_rfl) (ptr b34 8) rfl (fun _ hw => r_indexA (i := 8) rfl rfl (by omega) (by omega) Try.underlying32 (by kernel_rfl)) (Below.refl _ _) ?_
    refine EH_one 9 (by kernel_rfl) ⟨_, rfl, ?_⟩
    refine EL_storeA (j := 8) (u := .int .u8 x143) rfl rfl (A121'.below B136) (by first | (simp; omega) | simp) rfl (by kernel_rfl) ?_
    intro w145 A146 K147 z148
    have A146' : Arr w145 b34 32 ((((((nu k).set 3 x68).set 4 x93).set 7 x118).set 8 x143).map (Value.int .u8)) := by simpa [List.map_set] using A146
    have B149 : Below w.heap.size w w145 := below_kept B132 K147 (Nat.le_trans B30.size (Nat.le_of_eq k36.symm)) (B132.size)
    have B150 : Below w12.heap.size w12 w145 := below_kept B133 K147 (Nat.le_trans B31.size (Nat.le_of_eq k36.symm)) (B133.size)
    have B151 : Below w20.heap.size w20 w145 := below_kept B134 K147 (Nat.le_trans B32.size (Nat.le_of_eq k36.symm)) (B134.size)
    have B152 : Below w28.heap.size w28 w145 := below_kept B135 K147 (Nat.le_trans (Nat.le_refl _) (Nat.le_of_eq k36.symm)) (B135.size)
    have A153 : Arr w145 b11 32 ((nu k).map (Value.int .u8)) := (A128.below B136).grew K147 (by simp; omega)
    refine EL_nil ?_
    refine ⟨rfl, .inl (by kernel_rfl), ?_⟩
    refine EH_done (by kernel_rfl) ?_
    refine inB_n ?_
    refine inB_n ?_
    refine thn_n ?_
    refine EC_reg ?_
    refine EL_val (.int .i64 9) w145 rfl (r_asn (by kernel_rfl) (r_add rfl rfl)) ?_
    refine EL_val (.int .i64 9) w145 rfl (r_move rfl) ?_
    refine EL_nil ?_
    refine thn_n ?_
    refine U_step ?_
    refine EC_seq ?_
    refine EC_reg ?_
    refine EL_val (.bool true) w145 rfl (r_dec (by decide) (r_lss rfl rfl)) ?_
    refine EL_nil ?_
    refine thn_n ?_
    refine EC_seq ?_
    refine EC_cond_true rfl ?_
    refine EC_skip ?_
    refine thn_n ?_
    refine EC_seq ?_
    refine EC_block ?_
    refine EC_seq ?_
    refine EC_reg ?_
    refine EL_val (.int .i64 9) w145 rfl (r_move rfl) ?_
    refine EL_val (.int .i64 9) w145 rfl (r_assign rfl) ?_
    refine EL_nil ?_
    refine thn_n ?_
    refine EC_block ?_
    refine EC_seq ?_
    refine EC_reg ?_
    refine EL_val (.int .i64 9) w145 rfl (r_move rfl) ?_
    refine EL_val (.int .i64 1) w145 rfl (r_asn (by kernel_rfl) (r_rem rfl rfl (by decide))) ?_
    refine EL_val (.bool false) w145 rfl (r_dec (by decide) (r_eql rfl rfl)) ?_
    refine EL_val (.bool false) w145 rfl (r_assign rfl) ?_
    refine EL_nil ?_
    refine thn_n ?_
    refine EC_cond_false rfl ?_
    refine EC_seq ?_
    refine EC_reg ?_
    refine EL_val (.int .i64 9) w145 rfl (r_move rfl) ?_
    refine EL_val (.int .i64 1) w145 rfl (r_asn (by kernel_rfl) (r_rem rfl rfl (by decide))) ?_
    refine EL_val (.bool false) w145 rfl (r_dec (by decide) (r_eql rfl rfl)) ?_
    refine EL_val (.bool false) w145 rfl (r_move rfl) ?_
    refine EL_pass 39 rfl rfl rfl rfl rfl ?_
    refine EL_pass 39 rfl rfl rfl rfl rfl ?_
    refine EL_val (.bool false) w145 rfl (r_pickF rfl rfl) ?_
    refine EL_val (.bool false) w145 rfl (r_assign rfl) ?_
    refine EL_nil ?_
    refine thn_n ?_
    refine EC_cond_false rfl ?_
    refine EC_skip ?_
    refine inB_n ?_
    refine inB_n ?_
    refine thn_n ?_
    refine EC_reg ?_
    refine EL_val (.int .i64 10) w145 rfl (r_asn (by kernel_rfl) (r_add rfl rfl)) ?_
    refine EL_val (.int .i64 10) w145 rfl (r_move rfl) ?_
    refine EL_nil ?_
    refine thn_n ?_
    refine U_step ?_
    refine EC_seq ?_
    refine EC_reg ?_
    refine EL_val (.bool true) w145 rfl (r_dec (by decide) (r_lss rfl rfl)) ?_
    refine EL_nil ?_
    refine thn_n ?_
    refine EC_seq ?_
    refine EC_cond_true rfl ?_
    refine EC_skip ?_
    refine thn_n ?_
    refine EC_seq ?_
    refine EC_block ?_
    refine EC_seq ?_
    refine EC_reg ?_
    refine EL_val (.int .i64 10) w145 rfl (r_move rfl) ?_
    refine EL_val (.int .i64 10) w145 rfl (r_assign rfl) ?_
    refine EL_nil ?_
    refine thn_n ?_
    refine EC_block ?_
    refine EC_seq ?_
    refine EC_reg ?_
    refine EL_val (.int .i64 10) w145 rfl (r_move rfl) ?_
    refine EL_val (.int .i64 2) w145 rfl (r_asn (by kernel_rfl) (r_rem rfl rfl (by decide))) ?_
    refine EL_val (.bool false) w145 rfl (r_dec (by decide) (r_eql rfl rfl)) ?_
    refine EL_val (.bool false) w145 rfl (r_assign rfl) ?_
    refine EL_nil ?_
    refine thn_n ?_
    refine EC_cond_false rfl ?_
    refine EC_seq ?_
    refine EC_reg ?_
    refine EL_val (.int .i64 10) w145 rfl (r_move rfl) ?_
    refine EL_val (.int .i64 2) w145 rfl (r_asn (by kernel_rfl) (r_rem rfl rfl (by decide))) ?_
    refine EL_val (.bool false) w145 rfl (r_dec (by decide) (r_eql rfl rfl)) ?_
    refine EL_val (.bool false) w145 rfl (r_move rfl) ?_
    refine EL_pass 39 rfl rfl rfl rfl rfl ?_
    refine EL_pass 39 rfl rfl rfl rfl rfl ?_
    refine EL_val (.bool false) w145 rfl (r_pickF rfl rfl) ?_
    refine EL_val (.bool false) w145 rfl (r_assign rfl) ?_
    refine EL_nil ?_
    refine thn_n ?_
    refine EC_cond_false rfl ?_
    refine EC_skip ?_
    refine inB_n ?_
    refine inB_n ?_
    refine thn_n ?_
    refine EC_reg ?_
    refine EL_val (.int .i64 11) w145 rfl (r_asn (by kernel_rfl) (r_add rfl rfl)) ?_
    refine EL_val (.int .i64 11) w145 rfl (r_move rfl) ?_
    refine EL_nil ?_
    refine thn_n ?_
    refine U_step ?_
    refine EC_seq ?_
    refine EC_reg ?_
    refine EL_val (.bool true) w145 rfl (r_dec (by decide) (r_lss rfl rfl)) ?_
    refine EL_nil ?_
    refine thn_n ?_
    refine EC_seq ?_
    refine EC_cond_true rfl ?_
    refine EC_skip ?_
    refine thn_n ?_
    refine EC_seq ?_
    refine EC_block ?_
    refine EC_seq ?_
    refine EC_reg ?_
    refine EL_val (.int .i64 11) w145 rfl (r_move rfl) ?_
    refine EL_val (.int .i64 11) w145 rfl (r_assign rfl) ?_
    refine EL_nil ?_
    refine thn_n ?_
    refine EC_block ?_
    refine EC_seq ?_
    refine EC_reg ?_
    refine EL_val (.int .i64 11) w145 rfl (r_move rfl) ?_
    refine EL_val (.int .i64 3) w145 rfl (r_asn (by kernel_rfl) (r_rem rfl rfl (by decide))) ?_
    refine EL_val (.bool true) w145 rfl (r_dec (by decide) (r_eql rfl rfl)) ?_
    refine EL_val (.bool true) w145 rfl (r_assign rfl) ?_
    refine EL_nil ?_
    refine thn_n ?_
    refine EC_cond_true rfl ?_
    refine EC_until 9 (by kernel_rfl) ?_
    intro w154 B155 z156
    have B157 : Below w.heap.size w w154 := below_full B149 B149.size B155
    have B158 : Below w12.heap.size w12 w154 := below_full B150 B150.size B155
    have B159 : Below w20.heap.size w20 w154 := below_full B151 B151.size B155
    have B160 : Below w28.heap.size w28 w154 := below_full B152 B152.size B155
    have B161 : Below w145.heap.size w145 w154 := B155
    refine EH_take 0 rfl (by kernel_rfl) (by kernel_rfl) (by kernel_rfl) rfl 40 (by kernel_rfl) (.int .i64 11) rfl (fun _ hw => r_move rfl) (Below.refl _ _) ?_
    refine EH_take 1 rfl (by kernel_rfl) (by kernel_rfl) (by kernel_rfl) rfl 40 (by kernel_rfl) (ptr b34 11) rfl (fun _ hw => r_indexA (i := 11) rfl rfl (by omega) (by omega) Try.underlying32 (by kernel_rfl)) (Below.refl _ _) ?_
    obtain ⟨x162, hx163⟩ := get_some (l := ((((nu k).set 3 x68).set 4 x93).set 7 x118).set 8 x143) (j := 11) (by first | omega | (simp; omega) | simp)
    have dhx163 := dig_get (dig_set (dig_set (dig_set (dig_set (dig_num k) 3 (by omega)) 4 (by omega)) 7 (by omega)) 8 (by omega)) hx163
    have ghx163 : bi k 11 = x162 := by rw [bi_nu]; exact getD_of (by simpa [List.getElem?_set] using hx163)
    refine EH_take 2 rfl (by kernel_rfl) (by kernel_rfl) (by kernel_rfl) rfl 40 (by kernel_rfl) (.int .u8 x162) rfl (fun _ hw => r_loadA rfl ((A146'.below B161).below hw) (int_get hx163) Try.underlying5 rfl) (Below.refl _ _) ?_
    refine EH_take 3 rfl (by kernel_rfl) (by kernel_rfl) (by kernel_rfl) rfl 40 (by kernel_rfl) (.int .i64 11) rfl (fun _ hw => r_move rfl) (Below.refl _ _) ?_
    refine EH_take 4 rfl (by kernel_rfl) (by kernel_rfl) (by kernel_rfl) rfl 40 (by kernel_rfl) (ptr b19 11) rfl (fun _ hw => r_indexA (i := 11) rfl rfl (by omega) (by omega) Try.underlying30 (by kernel_rfl)) (Below.refl _ _) ?_
    obtain ⟨b164, hb165⟩ := get_some (l := u) (j := 11) (by first | omega | (simp; omega) | simp)
    have hb166 := b164.toNat_lt
    refine EH_take 5 rfl (by kernel_rfl) (by kernel_rfl) (by kernel_rfl) rfl 40 (by kernel_rfl) (.int .u8 (b164.toNat : Int)) rfl (fun _ hw => r_load rfl (row_cellA ((R25.below B159).below hw) hb165) Try.underlying5 rfl) (Below.refl _ _) ?_
    refine EH_take 6 rfl (by kernel_rfl) (by kernel_rfl) (by kernel_rfl) rfl 40 (by kernel_rfl) (.int .u8 (a8 (b164.toNat : Int) 240)) rfl (fun _ hw => r_and8 (k := 240) rfl rfl rfl (by decide) (by omega)) (Below.refl _ _) ?_
    have ba167 := a8_bd (m := (b164.toNat : Int)) 240 (by omega)
    obtain ⟨x168, hx168⟩ : ∃ z : Int, z = x8 x162 (a8 (b164.toNat : Int) 240) := ⟨_, rfl⟩
    have bx169 := x8_bd (m := x162) (n := a8 (b164.toNat : Int) 240) (by omega) (by omega)
    rw [← hx168] at bx169
    have qx168 : x168 % 16 = bi k 11 % 16 := by rw [hx168, ghx163]; exact x8_hi (by omega)
    refine EH_take 7 rfl (by kernel_rfl) (by kernel_rfl) (by kernel_rfl) rfl 40 (by kernel_rfl) (.int .u8 x168) rfl (fun _ hw => by rw [hx168]; exact r_xor8 rfl rfl (by omega) (by omega)) (Below.refl _ _) ?_
    refine EH_take 8 rfl (by kernel_rfl) (by kernel_rfl) (by kernel_rfl) rfl 40 (by kernel_rfl) (ptr b34 11) rfl (fun _ hw => r_indexA (i := 11) rfl rfl (by omega) (by omega) Try.underlying32 (by kernel_rfl)) (Below.refl _ _) ?_
    refine EH_one 9 (by kernel_rfl) ⟨_, rfl, ?_⟩
    refine EL_storeA (j := 11) (u := .int .u8 x168) rfl rfl (A146'.below B161) (by first | (simp; omega) | simp) rfl (by kernel_rfl) ?_
    intro w170 A171 K172 z173
    have A171' : Arr w170 b34 32 (((((((nu k).set 3 x68).set 4 x93).set 7 x118).set 8 x143).set 11 x168).map (Value.int .u8)) := by simpa [List.map_set] using A171
    have B174 : Below w.heap.size w w170 := below_kept B157 K172 (Nat.le_trans B30.size (Nat.le_of_eq k36.symm)) (B157.size)
    have B175 : Below w12.heap.size w12 w170 := below_kept B158 K172 (Nat.le_trans B31.size (Nat.le_of_eq k36.symm)) (B158.size)
    have B176 : Below w20.heap.size w20 w170 := below_kept B159 K172 (Nat.le_trans B32.size (Nat.le_of_eq k36.symm)) (B159.size)
    have B177 : Below w28.heap.size w28 w170 := below_kept B160 K172 (Nat.le_trans (Nat.le_refl _) (Nat.le_of_eq k36.symm)) (B160.size)
    have A178 : Arr w170 b11 32 ((nu k).map (Value.int .u8)) := (A153.below B161).grew K172 (by simp; omega)
    refine EL_nil ?_
    refine ⟨rfl, .inl (by kernel_rfl), ?_⟩
    refine EH_done (by kernel_rfl) ?_
    refine inB_n ?_
    refine inB_n ?_
    refine thn_n ?_
    refine EC_reg ?_
    refine EL_val (.int .i64 12) w170 rfl (r_asn (by kernel_rfl) (r_add rfl rfl)) ?_
    refine EL_val (.int .i64 12) w170 rfl (r_move rfl) ?_
    refine EL_nil ?_
    refine thn_n ?_
    refine U_step ?_
    refine EC_seq ?_
    refine EC_reg ?_
    refine EL_val (.bool true) w170 rfl (r_dec (by decide) (r_lss rfl rfl)) ?_
    refine EL_nil ?_
    refine thn_n ?_
    refine EC_seq ?_
    refine EC_cond_true rfl ?_
    refine EC_skip ?_
    refine thn_n ?_
    refine EC_seq ?_
    refine EC_block ?_
    refine EC_seq ?_
    refine EC_reg ?_
    refine EL_val (.int .i64 12) w170 rfl (r_move rfl) ?_
    refine EL_val (.int .i64 12) w170 rfl (r_assign rfl) ?_
    refine EL_nil ?_
    refine thn_n ?_
    refine EC_block ?_
    refine EC_seq ?_
    refine EC_reg ?_
    refine EL_val (.int .i64 12) w170 rfl (r_move rfl) ?_
    refine EL_val (.int .i64 0) w170 rfl (r_asn (by kernel_rfl) (r_rem rfl rfl (by decide))) ?_
    refine EL_val (.bool false) w170 rfl (r_dec (by decide) (r_eql rfl rfl)) ?_
    refine EL_val (.bool false) w170 rfl (r_assign rfl) ?_
    refine EL_nil ?_
    refine thn_n ?_
    refine EC_cond_false rfl ?_
    refine EC_seq ?_
    refine EC_reg ?_
    refine EL_val (.int .i64 12) w170 rfl (r_move rfl) ?_
    refine EL_val (.int .i64 0) w170 rfl (r_asn (by kernel_rfl) (r_rem rfl rfl (by decide))) ?_
    refine EL_val (.bool true) w170 rfl (r_dec (by decide) (r_eql rfl rfl)) ?_
    refine EL_val (.bool true) w170 rfl (r_move rfl) ?_
    refine EL_gval 39 rfl rfl rfl rfl (.int .i64 12) w170 rfl (r_move rfl) ?_
    refine EL_gval 39 rfl rfl rfl rfl (.bool true) w170 rfl (r_dec (by decide) (r_gtr rfl rfl)) ?_
    refine EL_val (.bool true) w170 rfl (r_pickT rfl rfl) ?_
    refine EL_val (.bool true) w170 rfl (r_assign rfl) ?_
    refine EL_nil ?_
    refine thn_n ?_
    refine EC_cond_true rfl ?_
    refine EC_until 9 (by kernel_rfl) ?_
    intro w179 B180 z181
    have B182 : Below w.heap.size w w179 := below_full B174 B174.size B180
    have B183 : Below w12.heap.size w12 w179 := below_full B175 B175.size B180
    have B184 : Below w20.heap.size w20 w179 := below_full B176 B176.size B180
    have B185 : Below w28.heap.size w28 w179 := below_full B177 B177.size B180
    have B186 : Below w170.heap.size w170 w179 := B180
    refine EH_take 0 rfl (by kernel_rfl) (by kernel_rfl) (by kernel_rfl) rfl 40 (by kernel_rfl) (.int .i64 12) rfl (fun _ hw => r_move rfl) (Below.refl _ _) ?_
    refine EH_take 1 rfl (by kernel_rfl) (by kernel_rfl) (by kernel_rfl) rfl 40 (by kernel_rfl) (ptr b34 12) rfl (fun _ hw => r_indexA (i := 12) rfl rfl (by omega) (by omega) Try.underlying32 (by kernel_rfl)) (Below.refl _ _) ?_
    obtain ⟨x187, hx188⟩ := get_some (l := (((((nu k).set 3 x68).set 4 x93).set 7 x118).set 8 x143).set 11 x168) (j := 12) (by first | omega | (simp; omega) | simp)
    have dhx188 := dig_get (dig_set (dig_set (dig_set (dig_set (dig_set (dig_num k) 3 (by omega)) 4 (by omega)) 7 (by omega)) 8 (by omega)) 11 (by omega)) hx188
    have ghx188 : bi k 12 = x187 := by rw [bi_nu]; exact getD_of (by simpa [List.getElem?_set] using hx188)
    refine EH_take 2 rfl (by kernel_rfl) (by kernel_rfl) (by kernel_rfl) rfl 40 (by kernel_rfl) (.int .u8 x187) rfl (fun _ hw => r_loadA rfl ((A171'.below B186).below hw) (int_get hx188) Try.underlying5 rfl) (Below.refl _ _) ?_
    refine EH_take 3 rfl (by kernel_rfl) (by kernel_rfl) (by kernel_rfl) rfl 40 (by kernel_rfl) (.int .i64 12) rfl (fun _ hw => r_move rfl) (Below.refl _ _) ?_
    refine EH_take 4 rfl (by kernel_rfl) (by kernel_rfl) (by kernel_rfl) rfl 40 (by kernel_rfl) (ptr b19 12) rfl (fun _ hw => r_indexA (i := 12) rfl rfl (by omega) (by omega) Try.underlying30 (by kernel_rfl)) (Below.refl _ _) ?_
    obtain ⟨b189, hb190⟩ := get_some (l := u) (j := 12) (by first | omega | (simp; omega) | simp)
    have hb191 := b189.toNat_lt
    refine EH_take 5 rfl (by kernel_rfl) (by kernel_rfl) (by kernel_rfl) rfl 40 (by kernel_rfl) (.int .u8 (b189.toNat : Int)) rfl (fun _ hw => r_load rfl (row_cellA ((R25.below B184).below hw) hb190) Try.underlying5 rfl) (Below.refl _ _) ?_
    refine EH_take 6 rfl (by kernel_rfl) (by kernel_rfl) (by kernel_rfl) rfl 40 (by kernel_rfl) (.int .u8 (a8 (b189.toNat : Int) 3)) rfl (fun _ hw => r_and8 (k := 3) rfl rfl rfl (by decide) (by omega)) (Below.refl _ _) ?_
    have ba192 := a8_bd (m := (b189.toNat : Int)) 3 (by omega)
    obtain ⟨x193, hx193⟩ : ∃ z : Int, z = x8 x187 (a8 (b189.toNat : Int) 3) := ⟨_, rfl⟩
    have bx194 := x8_bd (m := x187) (n := a8 (b189.toNat : Int) 3) (by omega) (by omega)
    rw [← hx193] at bx194
    have qx193 : x193 / 4 = bi k 12 / 4 := by rw [hx193, ghx188]; exact x8_lo (by omega)
    refine EH_take 7 rfl (by kernel_rfl) (by kernel_rfl) (by kernel_rfl) rfl 40 (by kernel_rfl) (.int .u8 x193) rfl (fun _ hw => by rw [hx193]; exact r_xor8 rfl rfl (by omega) (by omega)) (Below.refl _ _) ?_
    refine EH_take 8 rfl (by kernel_rfl) (by kernel_rfl) (by kernel_rfl) rfl 40 (by kernel_rfl) (ptr b34 12) rfl (fun _ hw => r_indexA (i := 12) rfl rfl (by omega) (by omega) Try.underlying32 (by kernel_rfl)) (Below.refl _ _) ?_
    refine EH_one 9 (by kernel_rfl) ⟨_, rfl, ?_⟩
    refine EL_storeA (j := 12) (u := .int .u8 x193) rfl rfl (A171'.below B186) (by first | (simp; omega) | simp) rfl (by kernel_rfl) ?_
    intro w195 A196 K197 z198
    have A196' : Arr w195 b34 32 ((((((((nu k).set 3 x68).set 4 x93).set 7 x118).set 8 x143).set 11 x168).set 12 x193).map (Value.int .u8)) := by simpa [List.map_set] using A196
    have B199 : Below w.heap.size w w195 := below_kept B182 K197 (Nat.le_trans B30.size (Nat.le_of_eq k36.symm)) (B182.size)
    have B200 : Below w12.heap.size w12 w195 := below_kept B183 K197 (Nat.le_trans B31.size (Nat.le_of_eq k36.symm)) (B183.size)
    have B201 : Below w20.heap.size w20 w195 := below_kept B184 K197 (Nat.le_trans B32.size (Nat.le_of_eq k36.symm)) (B184.size)
    have B202 : Below w28.heap.size w28 w195 := below_kept B185 K197 (Nat.le_trans (Nat.le_refl _) (Nat.le_of_eq k36.symm)) (B185.size)
    have A203 : Arr w195 b11 32 ((nu k).map (Value.int .u8)) := (A178.below B186).grew K197 (by simp; omega)
    refine EL_nil ?_
    refine ⟨rfl, .inl (by kernel_rfl), ?_⟩
    refine EH_done (by kernel_rfl) ?_
    refine inB_n ?_
    refine inB_n ?_
    refine thn_n ?_
    refine EC_reg ?_
    refine EL_val (.int .i64 13) w195 rfl (r_asn (by kernel_rfl) (r_add rfl rfl)) ?_
    refine EL_val (.int .i64 13) w195 rfl (r_move rfl) ?_
    refine EL_nil ?_
    refine thn_n ?_
    refine U_step ?_
    refine EC_seq ?_
    refine EC_reg ?_
    refine EL_val (.bool true) w195 rfl (r_dec (by decide) (r_lss rfl rfl)) ?_
    refine EL_nil ?_
    refine thn_n ?_
    refine EC_seq ?_
    refine EC_cond_true rfl ?_
    refine EC_skip ?_
    refine thn_n ?_
    refine EC_seq ?_
    refine EC_block ?_
    refine EC_seq ?_
    refine EC_reg ?_
    refine EL_val (.int .i64 13) w195 rfl (r_move rfl) ?_
    refine EL_val (.int .i64 13) w195 rfl (r_assign rfl) ?_
    refine EL_nil ?_
    refine thn_n ?_
    refine EC_block ?_
    refine EC_seq ?_
    refine EC_reg ?_
    refine EL_val (.int .i64 13) w195 rfl (r_move rfl) ?_
    refine EL_val (.int .i64 1) w195 rfl (r_asn (by kernel_rfl) (r_rem rfl rfl (by decide))) ?_
    refine EL_val (.bool false) w195 rfl (r_dec (by decide) (r_eql rfl rfl)) ?_
    refine EL_val (.bool false) w195 rfl (r_assign rfl) ?_
    refine EL_nil ?_
    refine thn_n ?_
    refine EC_cond_false rfl ?_
    refine EC_seq ?_
    refine EC_reg ?_
    refine EL_val (.int .i64 13) w195 rfl (r_move rfl) ?_
    refine EL_val (.int .i64 1) w195 rfl (r_asn (by kernel_rfl) (r_rem rfl rfl (by decide))) ?_
    refine EL_val (.bool false) w195 rfl (r_dec (by decide) (r_eql rfl rfl)) ?_
    refine EL_val (.bool false) w195 rfl (r_move rfl) ?_
    refine EL_pass 39 rfl rfl rfl rfl rfl ?_
    refine EL_pass 39 rfl rfl rfl rfl rfl ?_
    refine EL_val (.bool false) w195 rfl (r_pickF rfl rfl) ?_
    refine EL_val (.bool false) w195 rfl (r_assign rfl) ?_
    refine EL_nil ?_
    refine thn_n ?_
    refine EC_cond_false rfl ?_
    refine EC_skip ?_
    refine inB_n ?_
    refine inB_n ?_
    refine thn_n ?_
    refine EC_reg ?_
    refine EL_val (.int .i64 14) w195 rfl (r_asn (by kernel_rfl) (r_add rfl rfl)) ?_
    refine EL_val (.int .i64 14) w195 rfl (r_move rfl) ?_
    refine EL_nil ?_
    refine thn_n ?_
    refine U_step ?_
    refine EC_seq ?_
    refine EC_reg ?_
    refine EL_val (.bool true) w195 rfl (r_dec (by decide) (r_lss rfl rfl)) ?_
    refine EL_nil ?_
    refine thn_n ?_
    refine EC_seq ?_
    refine EC_cond_true rfl ?_
    refine EC_skip ?_
    refine thn_n ?_
    refine EC_seq ?_
    refine EC_block ?_
    refine EC_seq ?_
    refine EC_reg ?_
    refine EL_val (.int .i64 14) w195 rfl (r_move rfl) ?_
    refine EL_val (.int .i64 14) w195 rfl (r_assign rfl) ?_
    refine EL_nil ?_
    refine thn_n ?_
    refine EC_block ?_
    refine EC_seq ?_
    refine EC_reg ?_
    refine EL_val (.int .i64 14) w195 rfl (r_move rfl) ?_
    refine EL_val (.int .i64 2) w195 rfl (r_asn (by kernel_rfl) (r_rem rfl rfl (by decide))) ?_
    refine EL_val (.bool false) w195 rfl (r_dec (by decide) (r_eql rfl rfl)) ?_
    refine EL_val (.bool false) w195 rfl (r_assign rfl) ?_
    refine EL_nil ?_
    refine thn_n ?_
    refine EC_cond_false rfl ?_
    refine EC_seq ?_
    refine EC_reg ?_
    refine EL_val (.int .i64 14) w195 rfl (r_move rfl) ?_
    refine EL_val (.int .i64 2) w195 rfl (r_asn (by kernel_rfl) (r_rem rfl rfl (by decide))) ?_
    refine EL_val (.bool false) w195 rfl (r_dec (by decide) (r_eql rfl rfl)) ?_
    refine EL_val (.bool false) w195 rfl (r_move rfl) ?_
    refine EL_pass 39 rfl rfl rfl rfl rfl ?_
    refine EL_pass 39 rfl rfl rfl rfl rfl ?_
    refine EL_val (.bool false) w195 rfl (r_pickF rfl rfl) ?_
    refine EL_val (.bool false) w195 rfl (r_assign rfl) ?_
    refine EL_nil ?_
    refine thn_n ?_
    refine EC_cond_false rfl ?_
    refine EC_skip ?_
    refine inB_n ?_
    refine inB_n ?_
    refine thn_n ?_
    refine EC_reg ?_
    refine EL_val (.int .i64 15) w195 rfl (r_asn (by kernel_rfl) (r_add rfl rfl)) ?_
    refine EL_val (.int .i64 15) w195 rfl (r_move rfl) ?_
    refine EL_nil ?_
    refine thn_n ?_
    refine U_step ?_
    refine EC_seq ?_
    refine EC_reg ?_
    refine EL_val (.bool true) w195 rfl (r_dec (by decide) (r_lss rfl rfl)) ?_
    refine EL_nil ?_
    refine thn_n ?_
    refine EC_seq ?_
    refine EC_cond_true rfl ?_
    refine EC_skip ?_
    refine thn_n ?_
    refine EC_seq ?_
    refine EC_block ?_
    refine EC_seq ?_
    refine EC_reg ?_
    refine EL_val (.int .i64 15) w195 rfl (r_move rfl) ?_
    refine EL_val (.int .i64 15) w195 rfl (r_assign rfl) ?_
    refine EL_nil ?_
    refine thn_n ?_
    refine EC_block ?_
    refine EC_seq ?_
    refine EC_reg ?_
    refine EL_val (.int .i64 15) w195 rfl (r_move rfl) ?_
    refine EL_val (.int .i64 3) w195 rfl (r_asn (by kernel_rfl) (r_rem rfl rfl (by decide))) ?_
    refine EL_val (.bool true) w195 rfl (r_dec (by decide) (r_eql rfl rfl)) ?_
    refine EL_val (.bool true) w195 rfl (r_assign rfl) ?_
    refine EL_nil ?_
    refine thn_n ?_
    refine EC_cond_true rfl ?_
    refine EC_until 9 (by kernel_rfl) ?_
    intro w204 B205 z206
    have B207 : Below w.heap.size w w204 := below_full B199 B199.size B205
    have B208 : Below w12.heap.size w12 w204 := below_full B200 B200.size B205
    have B209 : Below w20.heap.size w20 w204 := below_full B201 B201.size B205
    have B210 : Below w28.heap.size w28 w204 := below_full B202 B202.size B205
    have B211 : Below w195.heap.size w195 w204 := B205
    refine EH_take 0 rfl (by kernel_rfl) (by kernel_rfl) (by kernel_rfl) rfl 40 (by kernel_rfl) (.int .i64 15) rfl (fun _ hw => r_move rfl) (Below.refl _ _) ?_
    refine EH_take 1 rfl (by kernel_rfl) (by kernel_rfl) (by kernel_rfl) rfl 40 (by kernel_rfl) (ptr b34 15) rfl (fun _ hw => r_indexA (i := 15) rfl rfl (by omega) (by omega) Try.underlying32 (by kernel_rfl)) (Below.refl _ _) ?_
    obtain ⟨x212, hx213⟩ := get_some (l := ((((((nu k).set 3 x68).set 4 x93).set 7 x118).set 8 x143).set 11 x168).set 12 x193) (j := 15) (by first | omega | (simp; omega) | simp)
    have dhx213 := dig_get (dig_set (dig_set (dig_set (dig_set (dig_set (dig_set (dig_num k) 3 (by omega)) 4 (by omega)) 7 (by omega)) 8 (by omega)) 11 (by omega)) 12 (by omega)) hx213
    have ghx213 : bi k 15 = x212 := by rw [bi_nu]; exact getD_of (by simpa [List.getElem?_set] using hx213)
    refine EH_take 2 rfl (by kernel_rfl) (by kernel_rfl) (by kernel_rfl) rfl 40 (by kernel_rfl) (.int .u8 x212) rfl (fun _ hw => r_loadA rfl ((A196'.below B211).below hw) (int_get hx213) Try.underlying5 rfl) (Below.refl _ _) ?_
    refine EH_take 3 rfl (by kernel_rfl) (by kernel_rfl) (by kernel_rfl) rfl 40 (by kernel_rfl) (.int .i64 15) rfl (fun _ hw => r_move rfl) (Below.refl _ _) ?_
    refine EH_take 4 rfl (by kernel_rfl) (by kernel_rfl) (by kernel_rfl) rfl 40 (by kernel_rfl) (ptr b19 15) rfl (fun _ hw => r_indexA (i := 15) rfl rfl (by omega) (by omega) Try.underlying30 (by kernel_rfl)) (Below.refl _ _) ?_
    obtain ⟨b214, hb215⟩ := get_some (l := u) (j := 15) (by first | omega | (simp; omega) | simp)
    have hb216 := b214.toNat_lt
    refine EH_take 5 rfl (by kernel_rfl) (by kernel_rfl) (by kernel_rfl) rfl 40 (by kernel_rfl) (.int .u8 (b214.toNat : Int)) rfl (fun _ hw => r_load rfl (row_cellA ((R25.below B209).below hw) hb215) Try.underlying5 rfl) (Below.refl _ _) ?_
    refine EH_take 6 rfl (by kernel_rfl) (by kernel_rfl) (by kernel_rfl) rfl 40 (by kernel_rfl) (.int .u8 (a8 (b214.toNat : Int) 240)) rfl (fun _ hw => r_and8 (k := 240) rfl rfl rfl (by decide) (by omega)) (Below.refl _ _) ?_
    have ba217 := a8_bd (m := (b214.toNat : Int)) 240 (by omega)
    obtain ⟨x218, hx218⟩ : ∃ z : Int, z = x8 x212 (a8 (b214.toNat : Int) 240) := ⟨_, rfl⟩
    have bx219 := x8_bd (m := x212) (n := a8 (b214.toNat : Int) 240) (by omega) (by omega)
    rw [← hx218] at bx219
    have qx218 : x218 % 16 = bi k 15 % 16 := by rw [hx218, ghx213]; exact x8_hi (by omega)
    refine EH_take 7 rfl (by kernel_rfl) (by kernel_rfl) (by kernel_rfl) rfl 40 (by kernel_rfl) (.int .u8 x218) rfl (fun _ hw => by rw [hx218]; exact r_xor8 rfl rfl (by omega) (by omega)) (Below.refl _ _) ?_
    refine EH_take 8 rfl (by kernel_rfl) (by kernel_rfl) (by kernel_rfl) rfl 40 (by kernel_rfl) (ptr b34 15) rfl (fun _ hw => r_indexA (i := 15) rfl rfl (by omega) (by omega) Try.underlying32 (by kernel_rfl)) (Below.refl _ _) ?_
    refine EH_one 9 (by kernel_rfl) ⟨_, rfl, ?_⟩
    refine EL_storeA (j := 15) (u := .int .u8 x218) rfl rfl (A196'.below B211) (by first | (simp; omega) | simp) rfl (by kernel_rfl) ?_
    intro w220 A221 K222 z223
    have A221' : Arr w220 b34 32 (((((((((nu k).set 3 x68).set 4 x93).set 7 x118).set 8 x143).set 11 x168).set 12 x193).set 15 x218).map (Value.int .u8)) := by simpa [List.map_set] using A221
    have B224 : Below w.heap.size w w220 := below_kept B207 K222 (Nat.le_trans B30.size (Nat.le_of_eq k36.symm)) (B207.size)
    have B225 : Below w12.heap.size w12 w220 := below_kept B208 K222 (Nat.le_trans B31.size (Nat.le_of_eq k36.symm)) (B208.size)
    have B226 : Below w20.heap.size w20 w220 := below_kept B209 K222 (Nat.le_trans B32.size (Nat.le_of_eq k36.symm)) (B209.size)
    have B227 : Below w28.heap.size w28 w220 := below_kept B210 K222 (Nat.le_trans (Nat.le_refl _) (Nat.le_of_eq k36.symm)) (B210.size)
    have A228 : Arr w220 b11 32 ((nu k).map (Value.int .u8)) := (A203.below B211).grew K222 (by simp; omega)
    refine EL_nil ?_
    refine ⟨rfl, .inl (by kernel_rfl), ?_⟩
    refine EH_done (by kernel_rfl) ?_
    refine inB_n ?_
    refine inB_n ?_
    refine thn_n ?_
    refine EC_reg ?_
    refine EL_val (.int .i64 16) w220 rfl (r_asn (by kernel_rfl) (r_add rfl rfl)) ?_
    refine EL_val (.int .i64 16) w220 rfl (r_move rfl) ?_
    refine EL_nil ?_
    refine thn_n ?_
    refine U_step ?_
    refine EC_seq ?_
    refine EC_reg ?_
    refine EL_val (.bool false) w220 rfl (r_dec (by decide) (r_lss rfl rfl)) ?_
    refine EL_nil ?_
    refine thn_n ?_
    refine EC_seq ?_
    refine EC_cond_false rfl ?_
    refine EC_exit ?_
    refine thn_x ?_
    refine thn_x ?_
    refine inB_hit ?_
    refine thn_n ?_
    refine EC_seq ?_
    refine EC_reg ?_
    refine EL_val (.slice (some ⟨b11, 0, none⟩) 32 32) w220 rfl (r_sliceA rfl Try.underlying32 (by kernel_rfl)) ?_
    refine EL_val v1 w220 rfl (r_move rfl) ?_
    have L232 := tag_len k t
    refine EL_ret [.slice (some ⟨b11, 0, none⟩) 32 32, v1] rfl Try.func10 rfl nm10 rfl (Tag_ok (.slice (some ⟨b11, 0, none⟩) 32 32) k v1 t w220 (R17.below B225) (H1.below B224) (by first | omega | (simp; done) | (simp; omega))) ?_
    rintro _ w233 ⟨p229, rfl, O230, B231⟩
    have B234 : Below w.heap.size w w233 := below_full B224 B224.size B231
    have B235 : Below w12.heap.size w12 w233 := below_full B225 B225.size B231
    have B236 : Below w20.heap.size w20 w233 := below_full B226 B226.size B231
    have B237 : Below w28.heap.size w28 w233 := below_full B227 B227.size B231
    have B238 : Below w220.heap.size w220 w233 := B231
    refine EL_val (.tuple #[p229, .int .i64 0]) w233 rfl (r_move rfl) ?_
    refine EL_val p229 w233 rfl (r_extract rfl rfl) ?_
    refine EL_val (.int .i64 0) w233 rfl (r_extract rfl rfl) ?_
    refine EL_val p229 w233 rfl (r_assign rfl) ?_
    refine EL_val (.int .i64 0) w233 rfl (r_assign rfl) ?_
    refine EL_nil ?_
    refine thn_n ?_
    refine EC_seq ?_
    refine EC_reg ?_
    obtain ⟨ob, hob⟩ : ∃ z, z = ((((((((nu k).set 3 x68).set 4 x93).set 7 x118).set 8 x143).set 11 x168).set 12 x193).set 15 x218).map bof := ⟨_, rfl⟩
    have hno : nu ob = (((((((nu k).set 3 x68).set 4 x93).set 7 x118).set 8 x143).set 11 x168).set 12 x193).set 15 x218 := by rw [hob]; exact nu_back (dig_set (dig_set (dig_set (dig_set (dig_set (dig_set (dig_set (dig_num k) 3 (by omega)) 4 (by omega)) 7 (by omega)) 8 (by omega)) 11 (by omega)) 12 (by omega)) 15 (by omega))
    have hol : ob.length = 32 := by rw [← nu_len, hno]; simp only [List.length_set]; exact hnl
    have eqt := tag_bits (t := t) hk qx68 qx93 qx118 qx143 qx168 qx193 qx218 hno
    have AO : Arr w233 b34 32 (ob.map byt) := by rw [← nu_map, hno]; exact (A221'.below B238)
    have RO : Bs w233 (.slice (some ⟨b34, 0, none⟩) 32 32) ob := barr_row AO (by omega) (by decide)
    refine EL_val (.slice (some ⟨b34, 0, none⟩) 32 32) w233 rfl (r_sliceA rfl Try.underlying32 (by kernel_rfl)) ?_
    refine EL_val v1 w233 rfl (r_move rfl) ?_
    have L242 := tag_len ob t
    refine EL_ret [.slice (some ⟨b34, 0, none⟩) 32 32, v1] rfl Try.func10 rfl nm10 rfl (Tag_ok (.slice (some ⟨b34, 0, none⟩) 32 32) ob v1 t w233 RO (H1.below B234) (by first | omega | (simp; done) | (simp; omega))) ?_
    rintro _ w243 ⟨p239, rfl, O240, B241⟩
    have B244 : Below w.heap.size w w243 := below_full B234 B234.size B241
    have B245 : Below w12.heap.size w12 w243 := below_full B235 B235.size B241
    have B246 : Below w20.heap.size w20 w243 := below_full B236 B236.size B241
    have B247 : Below w28.heap.size w28 w243 := below_full B237 B237.size B241
    have B248 : Below w220.heap.size w220 w243 := below_full B238 B238.size B241
    have B249 : Below w233.heap.size w233 w243 := B241
    refine EL_val (.tuple #[p239, .int .i64 0]) w243 rfl (r_move rfl) ?_
    refine EL_val p239 w243 rfl (r_extract rfl rfl) ?_
    refine EL_val (.int .i64 0) w243 rfl (r_extract rfl rfl) ?_
    refine EL_val p239 w243 rfl (r_assign rfl) ?_
    refine EL_val (.int .i64 0) w243 rfl (r_assign rfl) ?_
    refine EL_nil ?_
    refine thn_n ?_
    refine EC_seq ?_
    refine EC_reg ?_
    refine EL_val (.int .i64 0) w243 rfl (r_move rfl) ?_
    refine EL_val (.bool true) w243 rfl (r_dec (by decide) (r_eql rfl rfl)) ?_
    refine EL_val (.bool true) w243 rfl (r_move rfl) ?_
    refine EL_gval 67 rfl rfl rfl rfl (.int .i64 0) w243 rfl (r_move rfl) ?_
    refine EL_gval 67 rfl rfl rfl rfl (.bool true) w243 rfl (r_dec (by decide) (r_eql rfl rfl)) ?_
    refine EL_val (.bool true) w243 rfl (r_pickT rfl rfl) ?_
    refine EL_val (.bool true) w243 rfl (r_move rfl) ?_
    refine EL_gval 71 rfl rfl rfl rfl p229 w243 rfl (r_move rfl) ?_
    refine EL_gval 71 rfl rfl rfl rfl (.string (str (tag k t))) w243 rfl (r_str rfl ((own_row O230).below B249) Try.underlying22 Try.underlying5 Try.underlying9) ?_
    refine EL_gval 71 rfl rfl rfl rfl p239 w243 rfl (r_move rfl) ?_
    refine EL_gval 71 rfl rfl rfl rfl (.string (str (tag ob t))) w243 rfl (r_str rfl (own_row O240) Try.underlying22 Try.underlying5 Try.underlying9) ?_
    refine EL_gval 71 rfl rfl rfl rfl (.bool true) w243 rfl (r_dec (show (decide ((tag k t) = (tag ob t))) = true from by rw [eqt]; simp) (r_eqls rfl rfl)) ?_
    refine EL_val (.bool true) w243 rfl (r_pickT rfl rfl) ?_
    refine EL_val (.bool true) w243 rfl (r_assign rfl) ?_
    refine EL_nil ?_
    refine thn_n ?_
    refine EC_ret ?_
    refine fin1 Try.results6 (show _ = .bool true from rfl) ⟨_, rfl, ?_⟩
    exact ⟨rfl, B244⟩
theorem own : ownKnob Try.prog.godebug = none := by kernel_rfl
theorem laidOut : laidOutB Try.prog = true := by kernel_rfl
set_option maxRecDepth 100000 in
theorem lifted (os : Os) (started : os.Started) (H : Type) (enc : TypeId × Value → H) :
    ReturnsInHanded {} Try.checked os 6 .any (Rows.polyBitsSpec.pre6 enc Try.prog Try.f6 Rows.polyBitsRow.domain false) (Rows.polyBitsSpec.post enc Try.prog Try.f6 false true false false) := by
  refine returnsInHanded_of_change (C := Try.checked) own started (by kernel_rfl) Try.func6
    (ChangeSpec.witness6 (enc := enc) (C := Try.checked) false ⟨#[], #[.agg #[.int .u8 0, .int .u8 0, .int .u8 0, .int .u8 0, .int .u8 0, .int .u8 0, .int .u8 0, .int .u8 0, .int .u8 0, .int .u8 0, .int .u8 0, .int .u8 0, .int .u8 0, .int .u8 0, .int .u8 0, .int .u8 0, .int .u8 0, .int .u8 0, .int .u8 0, .int .u8 0, .int .u8 0, .int .u8 0, .int .u8 0, .int .u8 0, .int .u8 0, .int .u8 0, .int .u8 0, .int .u8 0, .int .u8 0, .int .u8 0, .int .u8 0, .int .u8 0], .agg #[.int .u8 0, .int .u8 0, .int .u8 0, .int .u8 0, .int .u8 0, .int .u8 0, .int .u8 0, .int .u8 0, .int .u8 0, .int .u8 0, .int .u8 0, .int .u8 0, .int .u8 0, .int .u8 0, .int .u8 0, .int .u8 0], .slice none 0 0], []⟩ 8 (by kernel_rfl) (by kernel_rfl) (by kernel_rfl) (by kernel_rfl)) ?_
  intro W base args ds gs before hval0 hW hcnd _
  have hval : ∀ (j : Nat) t v, Try.f6.params[j]? = some t → args[j]? = some v → Value.okWide Try.prog W .any base t v := hval0
  have hW' := hW
  obtain ⟨p, q, hA0, hV, rfl, hfz, hnd⟩ := hW
  have hA : DataW.TrodAll enc Try.prog W 0 (fun _ => true) true Try.f6.params.toList args.toList ds p := hA0
  rw [Try.params6] at hA hval
  obtain ⟨v0, vs0, d0, ds0, p0, q0, hargs, rfl, rfl, h0, r0⟩ := trodAll_cons hA
  obtain ⟨v1, vs1, d1, ds1, p1, q1, rfl, rfl, rfl, h1, r1⟩ := trodAll_cons r0
  obtain ⟨v2, vs2, d2, ds2, p2, q2, rfl, rfl, rfl, h2, r2⟩ := trodAll_cons r1
  obtain ⟨rfl, rfl, rfl⟩ := trodAll_nil r2
  obtain rfl : args = #[v0, v1, v2] := by cases args; simp_all
  obtain ⟨rfl, rfl⟩ := trodVars_none hV
  have k0 := h0
  have lt0 : ∀ x ∈ p0, x.block < W.heap.size := by obtain ⟨m, hm⟩ := k0; exact DataW.trod_lt m _ _ _ hm
  obtain ⟨l0, hl0, rfl⟩ := arr_open (n := 32) Try.underlying32 Try.underlying5 (by kernel_rfl) (by kernel_rfl) (hval 0 32 v0 rfl rfl) h0
  have k1 := h1
  have lt1 : ∀ x ∈ p1, x.block < W.heap.size := by obtain ⟨m, hm⟩ := k1; exact DataW.trod_lt m _ _ _ hm
  obtain ⟨l1, hl1, rfl⟩ := arr_open (n := 16) Try.underlying30 Try.underlying5 (by kernel_rfl) (by kernel_rfl) (hval 1 30 v1 rfl rfl) h1
  have k2 := h2
  have lt2 : ∀ x ∈ p2, x.block < W.heap.size := by obtain ⟨m, hm⟩ := k2; exact DataW.trod_lt m _ _ _ hm
  obtain ⟨a2, len2, cap2, rfl⟩ := okWide_slice Try.underlying22 (hval 2 22 v2 rfl rfl)
  obtain ⟨b2, H2⟩ : ∃ l, Bs W (.slice a2 len2 cap2) l := by
    obtain ⟨fuel, hf⟩ := h2
    rcases open_ints Try.underlying22 Try.underlying5 (by kernel_rfl) hf with ⟨hcs, _⟩ | ⟨x, l, c, zs, hcs, _, hl, hm, hz, _, hcell, hwz⟩
    · simp [Value.cells] at hcs
      obtain ⟨rfl, rfl, rfl⟩ := hcs
      exact ⟨[], Row.nil W⟩
    · simp [Value.cells] at hcs
      obtain ⟨rfl, rfl, rfl⟩ := hcs
      exact bs_open hl hm (by simpa using hz) hcell hwz
  clear hA0 hval0
  refine Calls.mono (PolyBits_c l0 l1 (.slice a2 len2 cap2) b2 W hl0 hl1 H2) fun e W' ⟨v', he, hv, bel⟩ => ?_
  subst he
  subst hv
  exact ⟨_, rfl, _, _, _, [], _, [], hW', trodAll_mk1 (shut_bool Try.underlying4 _), (trodAll_cons_mk (Below.trod laidOut (by kernel_rfl) (of_decide_eq_true (by kernel_rfl)) k0 bel lt0) (trodAll_cons_mk (Below.trod laidOut (by kernel_rfl) (of_decide_eq_true (by kernel_rfl)) k1 bel lt1) (trodAll_cons_mk (Below.trod laidOut (by kernel_rfl) (of_decide_eq_true (by kernel_rfl)) k2 bel lt2) trodAll_mk0))), rfl, bel.frame _, fun h => by cases h⟩
theorem over : Rows.polyBitsRow.holds Try.pinned (OpenSpec.ofChange Rows.polyBitsSpec) :=
  OpenClaim.holds_of_wide 6 Try.f6 rfl rfl rfl rfl rfl rfl rfl ⟨rfl, rfl, rfl, rfl, rfl⟩ rfl rfl rfl rfl rfl (by kernel_rfl) Try.func6 (by kernel_rfl)
    (of_decide_eq_true (by kernel_rfl)) (by unfold Func.isWrapper; first | (rw [if_pos (by decide +kernel)]; kernel_rfl) | (rw [if_neg (by decide +kernel)]; exact ⟨rfl, rfl⟩))
    (fun os started H enc _ => lifted os started H enc)
end Go.Proofs.Ytofclhmajgicdaa.polyBits
namespace Go.Proofs.Ytofclhmajgicdaa
theorem PolyBits_holds : Rows.PolyBitsSaid := polyBits.over
end Go.Proofs.Ytofclhmajgicdaa
