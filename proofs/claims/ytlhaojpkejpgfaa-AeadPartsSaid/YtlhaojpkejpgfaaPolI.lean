import Derived.Test.YtlhaojpkejpgfaaPolH
import Derived.Test.YtlhaojpkejpgfaaPolD
set_option linter.unusedVariables false
set_option linter.unusedSimpArgs false
namespace Go.Proofs.Ytlhaojpkejpgfaa
open Go.RowKit Go.Ecal

set_option maxRecDepth 100000 in
set_option maxHeartbeats 4000000 in
theorem Tag_ok (v0 : Value) (k : List UInt8) (v1 : Value) (t : List UInt8) (w : World) (H0 : Bs w v0 k) (H1 : Bs w v1 t) (hk : k.length = 32) : Ret Try.prog 16 [v0, v1] w fun v w' => ∃ p, v = .tuple #[p, .int .i64 0] ∧ w'.ownsRow w.heap.size 5 1 p (tag k t).length ((tag k t).map byt) ∧ Below w.heap.size w w' := by
  obtain ⟨r0, r1, r2, rW, rb0, rb1, rb2, rv⟩ := wof_ex (n := num (k.take 16)) (by have := num_bd (k.take 16); omega) (by have := num_bd (k.take 16); omega)
  obtain ⟨R, hR⟩ : ∃ z, z = cl (num (k.take 16)) := ⟨_, rfl⟩
  obtain ⟨NS, hNS⟩ : ∃ z, z = num (k.drop 16) := ⟨_, rfl⟩
  have bNS : 0 ≤ NS ∧ NS < 340282366920938463463374607431768211456 := by rw [hNS]; exact ⟨(num_bd _).1, num_bd16 (by simp; omega)⟩
  refine ret_E Try.func16 rfl Try.ntmps16 (by simp) ?_
  refine EC_seq ?_
  refine EC_reg ?_
  refine EL_val (.slice none 0 0) w rfl (r_assign rfl) ?_
  refine EL_val (.int .i64 0) w rfl (r_assign rfl) ?_
  refine EL_nil ?_
  refine thn_n ?_
  refine EC_seq ?_
  refine EC_seq ?_
  refine EC_reg ?_
  refine EL_val v0 w rfl (r_move rfl) ?_
  refine EL_val (.int .i64 (k.length : Int)) w rfl (lenB (r_len rfl H0 Try.underlying22)) ?_
  refine EL_val (.bool (decide ((k.length : Int) ≠ 32))) w rfl (r_neq rfl rfl) ?_
  refine EL_nil ?_
  refine thn_n ?_
  refine EC_cond_false (Eq.trans (show _ = Value.bool (decide ((k.length : Int) ≠ 32)) from rfl) (congrArg Value.bool (show (decide ((k.length : Int) ≠ 32)) = false from by simp; omega))) ?_
  refine EC_skip ?_
  refine thn_n ?_
  refine EC_cut (fun E' w' => ∃ q6 : Nat, ∃ q7 : Nat, E' 6 = ptr q6 ∧ E' 7 = ptr q7 ∧ E' 1 = v1 ∧ E' 4 = .slice none 0 0 ∧ E' 5 = .int .i64 0 ∧ (w.heap.size ≤ q6) ∧ (w.heap.size ≤ q7) ∧ (q6 ≠ q7) ∧ Below w.heap.size w w' ∧ Arr w' q6 49 ((([r0, r1, r2] : List Int)).map (Value.int .u64)) ∧ Arr w' q7 49 ((wof NS).map (Value.int .u64))) ?_ ?_
  · refine EC_until 9 (by kernel_rfl) ?_
    intro w11 B12 z13
    have B14 : Below w.heap.size w w11 := B12
    refine EH_take 0 rfl (by kernel_rfl) (by kernel_rfl) (by kernel_rfl) rfl 40 (by kernel_rfl) v0 rfl (fun _ hw => r_move rfl) (Below.refl _ _) ?_
    refine EH_take 1 rfl (by kernel_rfl) (by kernel_rfl) (by kernel_rfl) rfl 40 (by kernel_rfl) (cutV v0 0 16) rfl (fun _ hw => r_slice rfl ((H0.below B14).below hw) Try.underlying22 (by kernel_rfl) 0 16 (by first | omega | (simp; omega) | simp) (by first | omega | (simp; omega) | simp) (.inl ⟨rfl, rfl⟩) (.inr ⟨_, _, rfl, rfl⟩)) (Below.refl _ _) ?_
    have R15 : Bs w (cutV v0 0 16) (k.take 16) := Bs.upto H0 16 (by first | omega | (simp; omega) | simp)
    have L16 : (k.take 16).length = 16 - 0 := by first | (simp; done) | (simp; omega)
    refine EH_take 3 rfl (by kernel_rfl) (by kernel_rfl) (by kernel_rfl) rfl 40 (by kernel_rfl) v0 rfl (fun _ hw => r_move rfl) (Below.refl _ _) ?_
    refine EH_take 4 rfl (by kernel_rfl) (by kernel_rfl) (by kernel_rfl) rfl 40 (by kernel_rfl) (cutV v0 16 k.length) rfl (fun _ hw => r_slice rfl ((H0.below B14).below hw) Try.underlying22 (by kernel_rfl) 16 k.length (by first | omega | (simp; omega) | simp) (by first | omega | (simp; omega) | simp) (.inr ⟨_, _, rfl, rfl⟩) (.inl ⟨rfl, by simp⟩)) (Below.refl _ _) ?_
    have R17 : Bs w (cutV v0 16 k.length) (k.drop 16) := Bs.from H0 16 (by first | omega | (simp; omega) | simp)
    have L18 : (k.drop 16).length = k.length - 16 := by first | (simp; done) | (simp; omega)
    refine EH_three 2 6 7 (by kernel_rfl) ⟨_, rfl, ?_⟩ ⟨_, rfl, ?_⟩ ⟨_, rfl, ?_⟩
    · have hc19 := pget_c (cutV v0 0 16) (k.take 16) w11 (R15.below B14) (by simp; omega)
      rw [rW] at hc19
      refine EL_ret [(cutV v0 0 16)] rfl Try.func24 rfl nm24 rfl (hc19) ?_
      rintro _ w20 ⟨rfl, B21⟩
      have B22 : Below w.heap.size w w20 := below_full B14 B14.size B21
      have B23 : Below w11.heap.size w11 w20 := B21
      refine EL_nil ?_
      refine ⟨rfl, .inr B23, ?_⟩
      refine EH_three 5 6 7 (by kernel_rfl) ⟨_, rfl, ?_⟩ ⟨_, rfl, ?_⟩ ⟨_, rfl, ?_⟩
      · have hc24 := pget_c (cutV v0 16 k.length) (k.drop 16) w20 (R17.below B22) (by simp; omega)
        rw [← hNS] at hc24
        refine EL_ret [(cutV v0 16 k.length)] rfl Try.func24 rfl nm24 rfl (hc24) ?_
        rintro _ w25 ⟨rfl, B26⟩
        have B27 : Below w.heap.size w w25 := below_full B22 B22.size B26
        have B28 : Below w11.heap.size w11 w25 := below_full B23 B23.size B26
        have B29 : Below w20.heap.size w20 w25 := B26
        refine EL_nil ?_
        refine ⟨rfl, .inr B28, ?_⟩
        refine EH_two 6 7 (by kernel_rfl) ⟨_, rfl, ?_⟩ ⟨_, rfl, ?_⟩
        · refine EL_alloc (z := .agg #[.int .u64 0, .int .u64 0, .int .u64 0]) (List.replicate 3 (.int .u64 0)) rfl (by kernel_rfl) rfl ?_
          intro b30 w31 k32 A33 B34 z35
          have B36 : Below w.heap.size w w31 := below_full B27 B27.size B34
          have B37 : Below w11.heap.size w11 w31 := below_full B28 B28.size B34
          have B38 : Below w20.heap.size w20 w31 := below_full B29 B29.size B34
          have B39 : Below w25.heap.size w25 w31 := B34
          have A33' : Arr w31 b30 49 ((List.replicate 3 0).map (Value.int .u64)) := A33
          refine EL_nil ?_
          refine ⟨rfl, .inr B37, ?_⟩
          refine EH_one 7 (by kernel_rfl) ⟨_, rfl, ?_⟩
          refine EL_alloc (z := .agg #[.int .u64 0, .int .u64 0, .int .u64 0]) (List.replicate 3 (.int .u64 0)) rfl (by kernel_rfl) rfl ?_
          intro b40 w41 k42 A43 B44 z45
          have ne46 : b30 < b40 := by have := (A33').lt; omega
          have B47 : Below w.heap.size w w41 := below_full B36 B36.size B44
          have B48 : Below w11.heap.size w11 w41 := below_full B37 B37.size B44
          have B49 : Below w20.heap.size w20 w41 := below_full B38 B38.size B44
          have B50 : Below w25.heap.size w25 w41 := below_full B39 B39.size B44
          have B51 : Below w31.heap.size w31 w41 := B44
          have A43' : Arr w41 b40 49 ((List.replicate 3 0).map (Value.int .u64)) := A43
          refine EL_nil ?_
          refine ⟨rfl, .inr B48, ?_⟩
          refine EH_one 8 (by kernel_rfl) ⟨_, rfl, ?_⟩
          refine EL_storeAll (v := .agg (([r0, r1, r2] : List Int).map (Value.int .u64)).toArray) (cs' := (([r0, r1, r2] : List Int).map (Value.int .u64)).toArray) rfl rfl rfl (A33'.below B51) (by first | rfl | (simp; done) | (simp; omega)) (Eq.trans (show _ = some 3 from by kernel_rfl) (congrArg some (by first | (simp; done) | (simp; omega) | rfl))) (ints_oneCell _ _) ?_
          intro w52 A53 K54 z55
          have A53' : Arr w52 b30 49 (([r0, r1, r2] : List Int).map (Value.int .u64)) := by simpa using A53
          have B56 : Below w.heap.size w w52 := below_kept B47 K54 (Nat.le_trans B27.size (Nat.le_of_eq k32.symm)) (B47.size)
          have B57 : Below w11.heap.size w11 w52 := below_kept B48 K54 (Nat.le_trans B28.size (Nat.le_of_eq k32.symm)) (B48.size)
          have B58 : Below w20.heap.size w20 w52 := below_kept B49 K54 (Nat.le_trans B29.size (Nat.le_of_eq k32.symm)) (B49.size)
          have B59 : Below w25.heap.size w25 w52 := below_kept B50 K54 (Nat.le_trans (Nat.le_refl _) (Nat.le_of_eq k32.symm)) (B50.size)
          have A60 : Arr w52 b40 49 ((List.replicate 3 0).map (Value.int .u64)) := A43'.grew K54 (by simp; omega)
          refine EL_nil ?_
          refine ⟨rfl, .inr B57, ?_⟩
          refine EH_one 9 (by kernel_rfl) ⟨_, rfl, ?_⟩
          refine EL_storeAll (v := .agg ((wof NS).map (Value.int .u64)).toArray) (cs' := ((wof NS).map (Value.int .u64)).toArray) rfl rfl rfl A60 (by first | rfl | (simp; done) | (simp; omega)) (Eq.trans (show _ = some 3 from by kernel_rfl) (congrArg some (by first | (simp; done) | (simp; omega) | rfl))) (ints_oneCell _ _) ?_
          intro w61 A62 K63 z64
          have A62' : Arr w61 b40 49 ((wof NS).map (Value.int .u64)) := by simpa using A62
          have B65 : Below w.heap.size w w61 := below_kept B56 K63 (Nat.le_trans B36.size (Nat.le_of_eq k42.symm)) (B56.size)
          have B66 : Below w11.heap.size w11 w61 := below_kept B57 K63 (Nat.le_trans B37.size (Nat.le_of_eq k42.symm)) (B57.size)
          have B67 : Below w20.heap.size w20 w61 := below_kept B58 K63 (Nat.le_trans B38.size (Nat.le_of_eq k42.symm)) (B58.size)
          have B68 : Below w25.heap.size w25 w61 := below_kept B59 K63 (Nat.le_trans B39.size (Nat.le_of_eq k42.symm)) (B59.size)
          have A69 : Arr w61 b30 49 (([r0, r1, r2] : List Int).map (Value.int .u64)) := A53'.grew K63 (by simp; omega)
          refine EL_nil ?_
          refine ⟨rfl, .inl (by kernel_rfl), ?_⟩
          refine EH_done (by kernel_rfl) ?_
          refine thn_n ?_
          exact ⟨b30, b40, rfl, rfl, rfl, rfl, rfl, Nat.le_trans B27.size (Nat.le_of_eq k32.symm), Nat.le_trans B36.size (Nat.le_of_eq k42.symm), by omega, B65, A69, A62'⟩
        · refine EL_alloc (z := .agg #[.int .u64 0, .int .u64 0, .int .u64 0]) (List.replicate 3 (.int .u64 0)) rfl (by kernel_rfl) rfl ?_
          intro b70 w71 k72 A73 B74 z75
          have B76 : Below w.heap.size w w71 := below_full B27 B27.size B74
          have B77 : Below w11.heap.size w11 w71 := below_full B28 B28.size B74
          have B78 : Below w20.heap.size w20 w71 := below_full B29 B29.size B74
          have B79 : Below w25.heap.size w25 w71 := B74
          have A73' : Arr w71 b70 49 ((List.replicate 3 0).map (Value.int .u64)) := A73
          refine EL_nil ?_
          refine ⟨rfl, .inr B77, ?_⟩
          refine EH_one 6 (by kernel_rfl) ⟨_, rfl, ?_⟩
          refine EL_alloc (z := .agg #[.int .u64 0, .int .u64 0, .int .u64 0]) (List.replicate 3 (.int .u64 0)) rfl (by kernel_rfl) rfl ?_
          intro b80 w81 k82 A83 B84 z85
          have ne86 : b70 < b80 := by have := (A73').lt; omega
          have B87 : Below w.heap.size w w81 := below_full B76 B76.size B84
          have B88 : Below w11.heap.size w11 w81 := below_full B77 B77.size B84
          have B89 : Below w20.heap.size w20 w81 := below_full B78 B78.size B84
          have B90 : Below w25.heap.size w25 w81 := below_full B79 B79.size B84
          have B91 : Below w71.heap.size w71 w81 := B84
          have A83' : Arr w81 b80 49 ((List.replicate 3 0).map (Value.int .u64)) := A83
          refine EL_nil ?_
          refine ⟨rfl, .inr B88, ?_⟩
          refine EH_one 8 (by kernel_rfl) ⟨_, rfl, ?_⟩
          refine EL_storeAll (v := .agg (([r0, r1, r2] : List Int).map (Value.int .u64)).toArray) (cs' := (([r0, r1, r2] : List Int).map (Value.int .u64)).toArray) rfl rfl rfl A83' (by first | rfl | (simp; done) | (simp; omega)) (Eq.trans (show _ = some 3 from by kernel_rfl) (congrArg some (by first | (simp; done) | (simp; omega) | rfl))) (ints_oneCell _ _) ?_
          intro w92 A93 K94 z95
          have A93' : Arr w92 b80 49 (([r0, r1, r2] : List Int).map (Value.int .u64)) := by simpa using A93
          have B96 : Below w.heap.size w w92 := below_kept B87 K94 (Nat.le_trans B76.size (Nat.le_of_eq k82.symm)) (B87.size)
          have B97 : Below w11.heap.size w11 w92 := below_kept B88 K94 (Nat.le_trans B77.size (Nat.le_of_eq k82.symm)) (B88.size)
          have B98 : Below w20.heap.size w20 w92 := below_kept B89 K94 (Nat.le_trans B78.size (Nat.le_of_eq k82.symm)) (B89.size)
          have B99 : Below w25.heap.size w25 w92 := below_kept B90 K94 (Nat.le_trans B79.size (Nat.le_of_eq k82.symm)) (B90.size)
          have B100 : Below w71.heap.size w71 w92 := below_kept B91 K94 (Nat.le_trans (Nat.le_refl _) (Nat.le_of_eq k82.symm)) (B91.size)
          have A101 : Arr w92 b70 49 ((List.replicate 3 0).map (Value.int .u64)) := (A73'.below B91).grew K94 (by simp; omega)
          refine EL_nil ?_
          refine ⟨rfl, .inr B97, ?_⟩
          refine EH_one 9 (by kernel_rfl) ⟨_, rfl, ?_⟩
          refine EL_storeAll (v := .agg ((wof NS).map (Value.int .u64)).toArray) (cs' := ((wof NS).map (Value.int .u64)).toArray) rfl rfl rfl A101 (by first | rfl | (simp; done) | (simp; omega)) (Eq.trans (show _ = some 3 from by kernel_rfl) (congrArg some (by first | (simp; done) | (simp; omega) | rfl))) (ints_oneCell _ _) ?_
          intro w102 A103 K104 z105
          have A103' : Arr w102 b70 49 ((wof NS).map (Value.int .u64)) := by simpa using A103
          have B106 : Below w.heap.size w w102 := below_kept B96 K104 (Nat.le_trans B27.size (Nat.le_of_eq k72.symm)) (B96.size)
          have B107 : Below w11.heap.size w11 w102 := below_kept B97 K104 (Nat.le_trans B28.size (Nat.le_of_eq k72.symm)) (B97.size)
          have B108 : Below w20.heap.size w20 w102 := below_kept B98 K104 (Nat.le_trans B29.size (Nat.le_of_eq k72.symm)) (B98.size)
          have B109 : Below w25.heap.size w25 w102 := below_kept B99 K104 (Nat.le_trans (Nat.le_refl _) (Nat.le_of_eq k72.symm)) (B99.size)
          have A110 : Arr w102 b80 49 (([r0, r1, r2] : List Int).map (Value.int .u64)) := A93'.grew K104 (by simp; omega)
          refine EL_nil ?_
          refine ⟨rfl, .inl (by kernel_rfl), ?_⟩
          refine EH_done (by kernel_rfl) ?_
          refine thn_n ?_
          exact ⟨b80, b70, rfl, rfl, rfl, rfl, rfl, Nat.le_trans B76.size (Nat.le_of_eq k82.symm), Nat.le_trans B27.size (Nat.le_of_eq k72.symm), by omega, B106, A110, A103'⟩
      · refine EL_alloc (z := .agg #[.int .u64 0, .int .u64 0, .int .u64 0]) (List.replicate 3 (.int .u64 0)) rfl (by kernel_rfl) rfl ?_
        intro b111 w112 k113 A114 B115 z116
        have B117 : Below w.heap.size w w112 := below_full B22 B22.size B115
        have B118 : Below w11.heap.size w11 w112 := below_full B23 B23.size B115
        have B119 : Below w20.heap.size w20 w112 := B115
        have A114' : Arr w112 b111 49 ((List.replicate 3 0).map (Value.int .u64)) := A114
        refine EL_nil ?_
        refine ⟨rfl, .inr B118, ?_⟩
        refine EH_two 5 7 (by kernel_rfl) ⟨_, rfl, ?_⟩ ⟨_, rfl, ?_⟩
        · have hc120 := pget_c (cutV v0 16 k.length) (k.drop 16) w112 (R17.below B117) (by simp; omega)
          rw [← hNS] at hc120
          refine EL_ret [(cutV v0 16 k.length)] rfl Try.func24 rfl nm24 rfl (hc120) ?_
          rintro _ w121 ⟨rfl, B122⟩
          have B123 : Below w.heap.size w w121 := below_full B117 B117.size B122
          have B124 : Below w11.heap.size w11 w121 := below_full B118 B118.size B122
          have B125 : Below w20.heap.size w20 w121 := below_full B119 B119.size B122
          have B126 : Below w112.heap.size w112 w121 := B122
          refine EL_nil ?_
          refine ⟨rfl, .inr B124, ?_⟩
          refine EH_one 7 (by kernel_rfl) ⟨_, rfl, ?_⟩
          refine EL_alloc (z := .agg #[.int .u64 0, .int .u64 0, .int .u64 0]) (List.replicate 3 (.int .u64 0)) rfl (by kernel_rfl) rfl ?_
          intro b127 w128 k129 A130 B131 z132
          have ne133 : b111 < b127 := by have := ((A114'.below B126)).lt; omega
          have B134 : Below w.heap.size w w128 := below_full B123 B123.size B131
          have B135 : Below w11.heap.size w11 w128 := below_full B124 B124.size B131
          have B136 : Below w20.heap.size w20 w128 := below_full B125 B125.size B131
          have B137 : Below w112.heap.size w112 w128 := below_full B126 B126.size B131
          have B138 : Below w121.heap.size w121 w128 := B131
          have A130' : Arr w128 b127 49 ((List.replicate 3 0).map (Value.int .u64)) := A130
          refine EL_nil ?_
          refine ⟨rfl, .inr B135, ?_⟩
          refine EH_one 8 (by kernel_rfl) ⟨_, rfl, ?_⟩
          refine EL_storeAll (v := .agg (([r0, r1, r2] : List Int).map (Value.int .u64)).toArray) (cs' := (([r0, r1, r2] : List Int).map (Value.int .u64)).toArray) rfl rfl rfl (A114'.below B137) (by first | rfl | (simp; done) | (simp; omega)) (Eq.trans (show _ = some 3 from by kernel_rfl) (congrArg some (by first | (simp; done) | (simp; omega) | rfl))) (ints_oneCell _ _) ?_
          intro w139 A140 K141 z142
          have A140' : Arr w139 b111 49 (([r0, r1, r2] : List Int).map (Value.int .u64)) := by simpa using A140
          have B143 : Below w.heap.size w w139 := below_kept B134 K141 (Nat.le_trans B22.size (Nat.le_of_eq k113.symm)) (B134.size)
          have B144 : Below w11.heap.size w11 w139 := below_kept B135 K141 (Nat.le_trans B23.size (Nat.le_of_eq k113.symm)) (B135.size)
          have B145 : Below w20.heap.size w20 w139 := below_kept B136 K141 (Nat.le_trans (Nat.le_refl _) (Nat.le_of_eq k113.symm)) (B136.size)
          have A146 : Arr w139 b127 49 ((List.replicate 3 0).map (Value.int .u64)) := A130'.grew K141 (by simp; omega)
          refine EL_nil ?_
          refine ⟨rfl, .inr B144, ?_⟩
          refine EH_one 9 (by kernel_rfl) ⟨_, rfl, ?_⟩
          refine EL_storeAll (v := .agg ((wof NS).map (Value.int .u64)).toArray) (cs' := ((wof NS).map (Value.int .u64)).toArray) rfl rfl rfl A146 (by first | rfl | (simp; done) | (simp; omega)) (Eq.trans (show _ = some 3 from by kernel_rfl) (congrArg some (by first | (simp; done) | (simp; omega) | rfl))) (ints_oneCell _ _) ?_
          intro w147 A148 K149 z150
          have A148' : Arr w147 b127 49 ((wof NS).map (Value.int .u64)) := by simpa using A148
          have B151 : Below w.heap.size w w147 := below_kept B143 K149 (Nat.le_trans B123.size (Nat.le_of_eq k129.symm)) (B143.size)
          have B152 : Below w11.heap.size w11 w147 := below_kept B144 K149 (Nat.le_trans B124.size (Nat.le_of_eq k129.symm)) (B144.size)
          have B153 : Below w20.heap.size w20 w147 := below_kept B145 K149 (Nat.le_trans B125.size (Nat.le_of_eq k129.symm)) (B145.size)
          have A154 : Arr w147 b111 49 (([r0, r1, r2] : List Int).map (Value.int .u64)) := A140'.grew K149 (by simp; omega)
          refine EL_nil ?_
          refine ⟨rfl, .inl (by kernel_rfl), ?_⟩
          refine EH_done (by kernel_rfl) ?_
          refine thn_n ?_
          exact ⟨b111, b127, rfl, rfl, rfl, rfl, rfl, Nat.le_trans B22.size (Nat.le_of_eq k113.symm), Nat.le_trans B123.size (Nat.le_of_eq k129.symm), by omega, B151, A154, A148'⟩
        · refine EL_alloc (z := .agg #[.int .u64 0, .int .u64 0, .int .u64 0]) (List.replicate 3 (.int .u64 0)) rfl (by kernel_rfl) rfl ?_
          intro b155 w156 k157 A158 B159 z160
          have ne161 : b111 < b155 := by have := (A114').lt; omega
          have B162 : Below w.heap.size w w156 := below_full B117 B117.size B159
          have B163 : Below w11.heap.size w11 w156 := below_full B118 B118.size B159
          have B164 : Below w20.heap.size w20 w156 := below_full B119 B119.size B159
          have B165 : Below w112.heap.size w112 w156 := B159
          have A158' : Arr w156 b155 49 ((List.replicate 3 0).map (Value.int .u64)) := A158
          refine EL_nil ?_
          refine ⟨rfl, .inr B163, ?_⟩
          refine EH_one 5 (by kernel_rfl) ⟨_, rfl, ?_⟩
          have hc166 := pget_c (cutV v0 16 k.length) (k.drop 16) w156 (R17.below B162) (by simp; omega)
          rw [← hNS] at hc166
          refine EL_ret [(cutV v0 16 k.length)] rfl Try.func24 rfl nm24 rfl (hc166) ?_
          rintro _ w167 ⟨rfl, B168⟩
          have B169 : Below w.heap.size w w167 := below_full B162 B162.size B168
          have B170 : Below w11.heap.size w11 w167 := below_full B163 B163.size B168
          have B171 : Below w20.heap.size w20 w167 := below_full B164 B164.size B168
          have B172 : Below w112.heap.size w112 w167 := below_full B165 B165.size B168
          have B173 : Below w156.heap.size w156 w167 := B168
          refine EL_nil ?_
          refine ⟨rfl, .inr B170, ?_⟩
          refine EH_one 8 (by kernel_rfl) ⟨_, rfl, ?_⟩
          refine EL_storeAll (v := .agg (([r0, r1, r2] : List Int).map (Value.int .u64)).toArray) (cs' := (([r0, r1, r2] : List Int).map (Value.int .u64)).toArray) rfl rfl rfl (A114'.below B172) (by first | rfl | (simp; done) | (simp; omega)) (Eq.trans (show _ = some 3 from by kernel_rfl) (congrArg some (by first | (simp; done) | (simp; omega) | rfl))) (ints_oneCell _ _) ?_
          intro w174 A175 K176 z177
          have A175' : Arr w174 b111 49 (([r0, r1, r2] : List Int).map (Value.int .u64)) := by simpa using A175
          have B178 : Below w.heap.size w w174 := below_kept B169 K176 (Nat.le_trans B22.size (Nat.le_of_eq k113.symm)) (B169.size)
          have B179 : Below w11.heap.size w11 w174 := below_kept B170 K176 (Nat.le_trans B23.size (Nat.le_of_eq k113.symm)) (B170.size)
          have B180 : Below w20.heap.size w20 w174 := below_kept B171 K176 (Nat.le_trans (Nat.le_refl _) (Nat.le_of_eq k113.symm)) (B171.size)
          have A181 : Arr w174 b155 49 ((List.replicate 3 0).map (Value.int .u64)) := (A158'.below B173).grew K176 (by simp; omega)
          refine EL_nil ?_
          refine ⟨rfl, .inr B179, ?_⟩
          refine EH_one 9 (by kernel_rfl) ⟨_, rfl, ?_⟩
          refine EL_storeAll (v := .agg ((wof NS).map (Value.int .u64)).toArray) (cs' := ((wof NS).map (Value.int .u64)).toArray) rfl rfl rfl A181 (by first | rfl | (simp; done) | (simp; omega)) (Eq.trans (show _ = some 3 from by kernel_rfl) (congrArg some (by first | (simp; done) | (simp; omega) | rfl))) (ints_oneCell _ _) ?_
          intro w182 A183 K184 z185
          have A183' : Arr w182 b155 49 ((wof NS).map (Value.int .u64)) := by simpa using A183
          have B186 : Below w.heap.size w w182 := below_kept B178 K184 (Nat.le_trans B117.size (Nat.le_of_eq k157.symm)) (B178.size)
          have B187 : Below w11.heap.size w11 w182 := below_kept B179 K184 (Nat.le_trans B118.size (Nat.le_of_eq k157.symm)) (B179.size)
          have B188 : Below w20.heap.size w20 w182 := below_kept B180 K184 (Nat.le_trans B119.size (Nat.le_of_eq k157.symm)) (B180.size)
          have A189 : Arr w182 b111 49 (([r0, r1, r2] : List Int).map (Value.int .u64)) := A175'.grew K184 (by simp; omega)
          refine EL_nil ?_
          refine ⟨rfl, .inl (by kernel_rfl), ?_⟩
          refine EH_done (by kernel_rfl) ?_
          refine thn_n ?_
          exact ⟨b111, b155, rfl, rfl, rfl, rfl, rfl, Nat.le_trans B22.size (Nat.le_of_eq k113.symm), Nat.le_trans B117.size (Nat.le_of_eq k157.symm), by omega, B186, A189, A183'⟩
      · refine EL_alloc (z := .agg #[.int .u64 0, .int .u64 0, .int .u64 0]) (List.replicate 3 (.int .u64 0)) rfl (by kernel_rfl) rfl ?_
        intro b190 w191 k192 A193 B194 z195
        have B196 : Below w.heap.size w w191 := below_full B22 B22.size B194
        have B197 : Below w11.heap.size w11 w191 := below_full B23 B23.size B194
        have B198 : Below w20.heap.size w20 w191 := B194
        have A193' : Arr w191 b190 49 ((List.replicate 3 0).map (Value.int .u64)) := A193
        refine EL_nil ?_
        refine ⟨rfl, .inr B197, ?_⟩
        refine EH_two 5 6 (by kernel_rfl) ⟨_, rfl, ?_⟩ ⟨_, rfl, ?_⟩
        · have hc199 := pget_c (cutV v0 16 k.length) (k.drop 16) w191 (R17.below B196) (by simp; omega)
          rw [← hNS] at hc199
          refine EL_ret [(cutV v0 16 k.length)] rfl Try.func24 rfl nm24 rfl (hc199) ?_
          rintro _ w200 ⟨rfl, B201⟩
          have B202 : Below w.heap.size w w200 := below_full B196 B196.size B201
          have B203 : Below w11.heap.size w11 w200 := below_full B197 B197.size B201
          have B204 : Below w20.heap.size w20 w200 := below_full B198 B198.size B201
          have B205 : Below w191.heap.size w191 w200 := B201
          refine EL_nil ?_
          refine ⟨rfl, .inr B203, ?_⟩
          refine EH_one 6 (by kernel_rfl) ⟨_, rfl, ?_⟩
          refine EL_alloc (z := .agg #[.int .u64 0, .int .u64 0, .int .u64 0]) (List.replicate 3 (.int .u64 0)) rfl (by kernel_rfl) rfl ?_
          intro b206 w207 k208 A209 B210 z211
          have ne212 : b190 < b206 := by have := ((A193'.below B205)).lt; omega
          have B213 : Below w.heap.size w w207 := below_full B202 B202.size B210
          have B214 : Below w11.heap.size w11 w207 := below_full B203 B203.size B210
          have B215 : Below w20.heap.size w20 w207 := below_full B204 B204.size B210
          have B216 : Below w191.heap.size w191 w207 := below_full B205 B205.size B210
          have B217 : Below w200.heap.size w200 w207 := B210
          have A209' : Arr w207 b206 49 ((List.replicate 3 0).map (Value.int .u64)) := A209
          refine EL_nil ?_
          refine ⟨rfl, .inr B214, ?_⟩
          refine EH_one 8 (by kernel_rfl) ⟨_, rfl, ?_⟩
          refine EL_storeAll (v := .agg (([r0, r1, r2] : List Int).map (Value.int .u64)).toArray) (cs' := (([r0, r1, r2] : List Int).map (Value.int .u64)).toArray) rfl rfl rfl A209' (by first | rfl | (simp; done) | (simp; omega)) (Eq.trans (show _ = some 3 from by kernel_rfl) (congrArg some (by first | (simp; done) | (simp; omega) | rfl))) (ints_oneCell _ _) ?_
          intro w218 A219 K220 z221
          have A219' : Arr w218 b206 49 (([r0, r1, r2] : List Int).map (Value.int .u64)) := by simpa using A219
          have B222 : Below w.heap.size w w218 := below_kept B213 K220 (Nat.le_trans B202.size (Nat.le_of_eq k208.symm)) (B213.size)
          have B223 : Below w11.heap.size w11 w218 := below_kept B214 K220 (Nat.le_trans B203.size (Nat.le_of_eq k208.symm)) (B214.size)
          have B224 : Below w20.heap.size w20 w218 := below_kept B215 K220 (Nat.le_trans B204.size (Nat.le_of_eq k208.symm)) (B215.size)
          have B225 : Below w191.heap.size w191 w218 := below_kept B216 K220 (Nat.le_trans B205.size (Nat.le_of_eq k208.symm)) (B216.size)
          have B226 : Below w200.heap.size w200 w218 := below_kept B217 K220 (Nat.le_trans (Nat.le_refl _) (Nat.le_of_eq k208.symm)) (B217.size)
          have A227 : Arr w218 b190 49 ((List.replicate 3 0).map (Value.int .u64)) := (A193'.below B216).grew K220 (by simp; omega)
          refine EL_nil ?_
          refine ⟨rfl, .inr B223, ?_⟩
          refine EH_one 9 (by kernel_rfl) ⟨_, rfl, ?_⟩
          refine EL_storeAll (v := .agg ((wof NS).map (Value.int .u64)).toArray) (cs' := ((wof NS).map (Value.int .u64)).toArray) rfl rfl rfl A227 (by first | rfl | (simp; done) | (simp; omega)) (Eq.trans (show _ = some 3 from by kernel_rfl) (congrArg some (by first | (simp; done) | (simp; omega) | rfl))) (ints_oneCell _ _) ?_
          intro w228 A229 K230 z231
          have A229' : Arr w228 b190 49 ((wof NS).map (Value.int .u64)) := by simpa using A229
          have B232 : Below w.heap.size w w228 := below_kept B222 K230 (Nat.le_trans B22.size (Nat.le_of_eq k192.symm)) (B222.size)
          have B233 : Below w11.heap.size w11 w228 := below_kept B223 K230 (Nat.le_trans B23.size (Nat.le_of_eq k192.symm)) (B223.size)
          have B234 : Below w20.heap.size w20 w228 := below_kept B224 K230 (Nat.le_trans (Nat.le_refl _) (Nat.le_of_eq k192.symm)) (B224.size)
          have A235 : Arr w228 b206 49 (([r0, r1, r2] : List Int).map (Value.int .u64)) := A219'.grew K230 (by simp; omega)
          refine EL_nil ?_
          refine ⟨rfl, .inl (by kernel_rfl), ?_⟩
          refine EH_done (by kernel_rfl) ?_
          refine thn_n ?_
          exact ⟨b206, b190, rfl, rfl, rfl, rfl, rfl, Nat.le_trans B202.size (Nat.le_of_eq k208.symm), Nat.le_trans B22.size (Nat.le_of_eq k192.symm), by omega, B232, A235, A229'⟩
        · refine EL_alloc (z := .agg #[.int .u64 0, .int .u64 0, .int .u64 0]) (List.replicate 3 (.int .u64 0)) rfl (by kernel_rfl) rfl ?_
          intro b236 w237 k238 A239 B240 z241
          have ne242 : b190 < b236 := by have := (A193').lt; omega
          have B243 : Below w.heap.size w w237 := below_full B196 B196.size B240
          have B244 : Below w11.heap.size w11 w237 := below_full B197 B197.size B240
          have B245 : Below w20.heap.size w20 w237 := below_full B198 B198.size B240
          have B246 : Below w191.heap.size w191 w237 := B240
          have A239' : Arr w237 b236 49 ((List.replicate 3 0).map (Value.int .u64)) := A239
          refine EL_nil ?_
          refine ⟨rfl, .inr B244, ?_⟩
          refine EH_one 5 (by kernel_rfl) ⟨_, rfl, ?_⟩
          have hc247 := pget_c (cutV v0 16 k.length) (k.drop 16) w237 (R17.below B243) (by simp; omega)
          rw [← hNS] at hc247
          refine EL_ret [(cutV v0 16 k.length)] rfl Try.func24 rfl nm24 rfl (hc247) ?_
          rintro _ w248 ⟨rfl, B249⟩
          have B250 : Below w.heap.size w w248 := below_full B243 B243.size B249
          have B251 : Below w11.heap.size w11 w248 := below_full B244 B244.size B249
          have B252 : Below w20.heap.size w20 w248 := below_full B245 B245.size B249
          have B253 : Below w191.heap.size w191 w248 := below_full B246 B246.size B249
          have B254 : Below w237.heap.size w237 w248 := B249
          refine EL_nil ?_
          refine ⟨rfl, .inr B251, ?_⟩
          refine EH_one 8 (by kernel_rfl) ⟨_, rfl, ?_⟩
          refine EL_storeAll (v := .agg (([r0, r1, r2] : List Int).map (Value.int .u64)).toArray) (cs' := (([r0, r1, r2] : List Int).map (Value.int .u64)).toArray) rfl rfl rfl (A239'.below B254) (by first | rfl | (simp; done) | (simp; omega)) (Eq.trans (show _ = some 3 from by kernel_rfl) (congrArg some (by first | (simp; done) | (simp; omega) | rfl))) (ints_oneCell _ _) ?_
          intro w255 A256 K257 z258
          have A256' : Arr w255 b236 49 (([r0, r1, r2] : List Int).map (Value.int .u64)) := by simpa using A256
          have B259 : Below w.heap.size w w255 := below_kept B250 K257 (Nat.le_trans B196.size (Nat.le_of_eq k238.symm)) (B250.size)
          have B260 : Below w11.heap.size w11 w255 := below_kept B251 K257 (Nat.le_trans B197.size (Nat.le_of_eq k238.symm)) (B251.size)
          have B261 : Below w20.heap.size w20 w255 := below_kept B252 K257 (Nat.le_trans B198.size (Nat.le_of_eq k238.symm)) (B252.size)
          have B262 : Below w191.heap.size w191 w255 := below_kept B253 K257 (Nat.le_trans (Nat.le_refl _) (Nat.le_of_eq k238.symm)) (B253.size)
          have A263 : Arr w255 b190 49 ((List.replicate 3 0).map (Value.int .u64)) := (A193'.below B253).grew K257 (by simp; omega)
          refine EL_nil ?_
          refine ⟨rfl, .inr B260, ?_⟩
          refine EH_one 9 (by kernel_rfl) ⟨_, rfl, ?_⟩
          refine EL_storeAll (v := .agg ((wof NS).map (Value.int .u64)).toArray) (cs' := ((wof NS).map (Value.int .u64)).toArray) rfl rfl rfl A263 (by first | rfl | (simp; done) | (simp; omega)) (Eq.trans (show _ = some 3 from by kernel_rfl) (congrArg some (by first | (simp; done) | (simp; omega) | rfl))) (ints_oneCell _ _) ?_
          intro w264 A265 K266 z267
          have A265' : Arr w264 b190 49 ((wof NS).map (Value.int .u64)) := by simpa using A265
          have B268 : Below w.heap.size w w264 := below_kept B259 K266 (Nat.le_trans B22.size (Nat.le_of_eq k192.symm)) (B259.size)
          have B269 : Below w11.heap.size w11 w264 := below_kept B260 K266 (Nat.le_trans B23.size (Nat.le_of_eq k192.symm)) (B260.size)
          have B270 : Below w20.heap.size w20 w264 := below_kept B261 K266 (Nat.le_trans (Nat.le_refl _) (Nat.le_of_eq k192.symm)) (B261.size)
          have A271 : Arr w264 b236 49 (([r0, r1, r2] : List Int).map (Value.int .u64)) := A256'.grew K266 (by simp; omega)
          refine EL_nil ?_
          refine ⟨rfl, .inl (by kernel_rfl), ?_⟩
          refine EH_done (by kernel_rfl) ?_
          refine thn_n ?_
          exact ⟨b236, b190, rfl, rfl, rfl, rfl, rfl, Nat.le_trans B196.size (Nat.le_of_eq k238.symm), Nat.le_trans B22.size (Nat.le_of_eq k192.symm), by omega, B268, A271, A265'⟩
    · refine EL_alloc (z := .agg #[.int .u64 0, .int .u64 0, .int .u64 0]) (List.replicate 3 (.int .u64 0)) rfl (by kernel_rfl) rfl ?_
      intro b272 w273 k274 A275 B276 z277
      have B278 : Below w.heap.size w w273 := below_full B14 B14.size B276
      have B279 : Below w11.heap.size w11 w273 := B276
      have A275' : Arr w273 b272 49 ((List.replicate 3 0).map (Value.int .u64)) := A275
      refine EL_nil ?_
      refine ⟨rfl, .inr B279, ?_⟩
      refine EH_two 2 7 (by kernel_rfl) ⟨_, rfl, ?_⟩ ⟨_, rfl, ?_⟩
      · have hc280 := pget_c (cutV v0 0 16) (k.take 16) w273 (R15.below B278) (by simp; omega)
        rw [rW] at hc280
        refine EL_ret [(cutV v0 0 16)] rfl Try.func24 rfl nm24 rfl (hc280) ?_
        rintro _ w281 ⟨rfl, B282⟩
        have B283 : Below w.heap.size w w281 := below_full B278 B278.size B282
        have B284 : Below w11.heap.size w11 w281 := below_full B279 B279.size B282
        have B285 : Below w273.heap.size w273 w281 := B282
        refine EL_nil ?_
        refine ⟨rfl, .inr B284, ?_⟩
        refine EH_two 5 7 (by kernel_rfl) ⟨_, rfl, ?_⟩ ⟨_, rfl, ?_⟩
        · have hc286 := pget_c (cutV v0 16 k.length) (k.drop 16) w281 (R17.below B283) (by simp; omega)
          rw [← hNS] at hc286
          refine EL_ret [(cutV v0 16 k.length)] rfl Try.func24 rfl nm24 rfl (hc286) ?_
          rintro _ w287 ⟨rfl, B288⟩
          have B289 : Below w.heap.size w w287 := below_full B283 B283.size B288
          have B290 : Below w11.heap.size w11 w287 := below_full B284 B284.size B288
          have B291 : Below w273.heap.size w273 w287 := below_full B285 B285.size B288
          have B292 : Below w281.heap.size w281 w287 := B288
          refine EL_nil ?_
          refine ⟨rfl, .inr B290, ?_⟩
          refine EH_one 7 (by kernel_rfl) ⟨_, rfl, ?_⟩
          refine EL_alloc (z := .agg #[.int .u64 0, .int .u64 0, .int .u64 0]) (List.replicate 3 (.int .u64 0)) rfl (by kernel_rfl) rfl ?_
          intro b293 w294 k295 A296 B297 z298
          have ne299 : b272 < b293 := by have := ((A275'.below B291)).lt; omega
          have B300 : Below w.heap.size w w294 := below_full B289 B289.size B297
          have B301 : Below w11.heap.size w11 w294 := below_full B290 B290.size B297
          have B302 : Below w273.heap.size w273 w294 := below_full B291 B291.size B297
          have B303 : Below w281.heap.size w281 w294 := below_full B292 B292.size B297
          have B304 : Below w287.heap.size w287 w294 := B297
          have A296' : Arr w294 b293 49 ((List.replicate 3 0).map (Value.int .u64)) := A296
          refine EL_nil ?_
          refine ⟨rfl, .inr B301, ?_⟩
          refine EH_one 8 (by kernel_rfl) ⟨_, rfl, ?_⟩
          refine EL_storeAll (v := .agg (([r0, r1, r2] : List Int).map (Value.int .u64)).toArray) (cs' := (([r0, r1, r2] : List Int).map (Value.int .u64)).toArray) rfl rfl rfl (A275'.below B302) (by first | rfl | (simp; done) | (simp; omega)) (Eq.trans (show _ = some 3 from by kernel_rfl) (congrArg some (by first | (simp; done) | (simp; omega) | rfl))) (ints_oneCell _ _) ?_
          intro w305 A306 K307 z308
          have A306' : Arr w305 b272 49 (([r0, r1, r2] : List Int).map (Value.int .u64)) := by simpa using A306
          have B309 : Below w.heap.size w w305 := below_kept B300 K307 (Nat.le_trans B14.size (Nat.le_of_eq k274.symm)) (B300.size)
          have B310 : Below w11.heap.size w11 w305 := below_kept B301 K307 (Nat.le_trans (Nat.le_refl _) (Nat.le_of_eq k274.symm)) (B301.size)
          have A311 : Arr w305 b293 49 ((List.replicate 3 0).map (Value.int .u64)) := A296'.grew K307 (by simp; omega)
          refine EL_nil ?_
          refine ⟨rfl, .inr B310, ?_⟩
          refine EH_one 9 (by kernel_rfl) ⟨_, rfl, ?_⟩
          refine EL_storeAll (v := .agg ((wof NS).map (Value.int .u64)).toArray) (cs' := ((wof NS).map (Value.int .u64)).toArray) rfl rfl rfl A311 (by first | rfl | (simp; done) | (simp; omega)) (Eq.trans (show _ = some 3 from by kernel_rfl) (congrArg some (by first | (simp; done) | (simp; omega) | rfl))) (ints_oneCell _ _) ?_
          intro w312 A313 K314 z315
          have A313' : Arr w312 b293 49 ((wof NS).map (Value.int .u64)) := by simpa using A313
          have B316 : Below w.heap.size w w312 := below_kept B309 K314 (Nat.le_trans B289.size (Nat.le_of_eq k295.symm)) (B309.size)
          have B317 : Below w11.heap.size w11 w312 := below_kept B310 K314 (Nat.le_trans B290.size (Nat.le_of_eq k295.symm)) (B310.size)
          have A318 : Arr w312 b272 49 (([r0, r1, r2] : List Int).map (Value.int .u64)) := A306'.grew K314 (by simp; omega)
          refine EL_nil ?_
          refine ⟨rfl, .inl (by kernel_rfl), ?_⟩
          refine EH_done (by kernel_rfl) ?_
          refine thn_n ?_
          exact ⟨b272, b293, rfl, rfl, rfl, rfl, rfl, Nat.le_trans B14.size (Nat.le_of_eq k274.symm), Nat.le_trans B289.size (Nat.le_of_eq k295.symm), by omega, B316, A318, A313'⟩
        · refine EL_alloc (z := .agg #[.int .u64 0, .int .u64 0, .int .u64 0]) (List.replicate 3 (.int .u64 0)) rfl (by kernel_rfl) rfl ?_
          intro b319 w320 k321 A322 B323 z324
          have ne325 : b272 < b319 := by have := ((A275'.below B285)).lt; omega
          have B326 : Below w.heap.size w w320 := below_full B283 B283.size B323
          have B327 : Below w11.heap.size w11 w320 := below_full B284 B284.size B323
          have B328 : Below w273.heap.size w273 w320 := below_full B285 B285.size B323
          have B329 : Below w281.heap.size w281 w320 := B323
          have A322' : Arr w320 b319 49 ((List.replicate 3 0).map (Value.int .u64)) := A322
          refine EL_nil ?_
          refine ⟨rfl, .inr B327, ?_⟩
          refine EH_one 5 (by kernel_rfl) ⟨_, rfl, ?_⟩
          have hc330 := pget_c (cutV v0 16 k.length) (k.drop 16) w320 (R17.below B326) (by simp; omega)
          rw [← hNS] at hc330
          refine EL_ret [(cutV v0 16 k.length)] rfl Try.func24 rfl nm24 rfl (hc330) ?_
          rintro _ w331 ⟨rfl, B332⟩
          have B333 : Below w.heap.size w w331 := below_full B326 B326.size B332
          have B334 : Below w11.heap.size w11 w331 := below_full B327 B327.size B332
          have B335 : Below w273.heap.size w273 w331 := below_full B328 B328.size B332
          have B336 : Below w281.heap.size w281 w331 := below_full B329 B329.size B332
          have B337 : Below w320.heap.size w320 w331 := B332
          refine EL_nil ?_
          refine ⟨rfl, .inr B334, ?_⟩
          refine EH_one 8 (by kernel_rfl) ⟨_, rfl, ?_⟩
          refine EL_storeAll (v := .agg (([r0, r1, r2] : List Int).map (Value.int .u64)).toArray) (cs' := (([r0, r1, r2] : List Int).map (Value.int .u64)).toArray) rfl rfl rfl (A275'.below B335) (by first | rfl | (simp; done) | (simp; omega)) (Eq.trans (show _ = some 3 from by kernel_rfl) (congrArg some (by first | (simp; done) | (simp; omega) | rfl))) (ints_oneCell _ _) ?_
          intro w338 A339 K340 z341
          have A339' : Arr w338 b272 49 (([r0, r1, r2] : List Int).map (Value.int .u64)) := by simpa using A339
          have B342 : Below w.heap.size w w338 := below_kept B333 K340 (Nat.le_trans B14.size (Nat.le_of_eq k274.symm)) (B333.size)
          have B343 : Below w11.heap.size w11 w338 := below_kept B334 K340 (Nat.le_trans (Nat.le_refl _) (Nat.le_of_eq k274.symm)) (B334.size)
          have A344 : Arr w338 b319 49 ((List.replicate 3 0).map (Value.int .u64)) := (A322'.below B337).grew K340 (by simp; omega)
          refine EL_nil ?_
          refine ⟨rfl, .inr B343, ?_⟩
          refine EH_one 9 (by kernel_rfl) ⟨_, rfl, ?_⟩
          refine EL_storeAll (v := .agg ((wof NS).map (Value.int .u64)).toArray) (cs' := ((wof NS).map (Value.int .u64)).toArray) rfl rfl rfl A344 (by first | rfl | (simp; done) | (simp; omega)) (Eq.trans (show _ = some 3 from by kernel_rfl) (congrArg some (by first | (simp; done) | (simp; omega) | rfl))) (ints_oneCell _ _) ?_
          intro w345 A346 K347 z348
          have A346' : Arr w345 b319 49 ((wof NS).map (Value.int .u64)) := by simpa using A346
          have B349 : Below w.heap.size w w345 := below_kept B342 K347 (Nat.le_trans B283.size (Nat.le_of_eq k321.symm)) (B342.size)
          have B350 : Below w11.heap.size w11 w345 := below_kept B343 K347 (Nat.le_trans B284.size (Nat.le_of_eq k321.symm)) (B343.size)
          have A351 : Arr w345 b272 49 (([r0, r1, r2] : List Int).map (Value.int .u64)) := A339'.grew K347 (by simp; omega)
          refine EL_nil ?_
          refine ⟨rfl, .inl (by kernel_rfl), ?_⟩
          refine EH_done (by kernel_rfl) ?_
          refine thn_n ?_
          exact ⟨b272, b319, rfl, rfl, rfl, rfl, rfl, Nat.le_trans B14.size (Nat.le_of_eq k274.symm), Nat.le_trans B283.size (Nat.le_of_eq k321.symm), by omega, B349, A351, A346'⟩
      · refine EL_alloc (z := .agg #[.int .u64 0, .int .u64 0, .int .u64 0]) (List.replicate 3 (.int .u64 0)) rfl (by kernel_rfl) rfl ?_
        intro b352 w353 k354 A355 B356 z357
        have ne358 : b272 < b352 := by have := (A275').lt; omega
        have B359 : Below w.heap.size w w353 := below_full B278 B278.size B356
        have B360 : Below w11.heap.size w11 w353 := below_full B279 B279.size B356
        have B361 : Below w273.heap.size w273 w353 := B356
        have A355' : Arr w353 b352 49 ((List.replicate 3 0).map (Value.int .u64)) := A355
        refine EL_nil ?_
        refine ⟨rfl, .inr B360, ?_⟩
        refine EH_one 2 (by kernel_rfl) ⟨_, rfl, ?_⟩
        have hc362 := pget_c (cutV v0 0 16) (k.take 16) w353 (R15.below B359) (by simp; omega)
        rw [rW] at hc362
        refine EL_ret [(cutV v0 0 16)] rfl Try.func24 rfl nm24 rfl (hc362) ?_
        rintro _ w363 ⟨rfl, B364⟩
        have B365 : Below w.heap.size w w363 := below_full B359 B359.size B364
        have B366 : Below w11.heap.size w11 w363 := below_full B360 B360.size B364
        have B367 : Below w273.heap.size w273 w363 := below_full B361 B361.size B364
        have B368 : Below w353.heap.size w353 w363 := B364
        refine EL_nil ?_
        refine ⟨rfl, .inr B366, ?_⟩
        refine EH_one 5 (by kernel_rfl) ⟨_, rfl, ?_⟩
        have hc369 := pget_c (cutV v0 16 k.length) (k.drop 16) w363 (R17.below B365) (by simp; omega)
        rw [← hNS] at hc369
        refine EL_ret [(cutV v0 16 k.length)] rfl Try.func24 rfl nm24 rfl (hc369) ?_
        rintro _ w370 ⟨rfl, B371⟩
        have B372 : Below w.heap.size w w370 := below_full B365 B365.size B371
        have B373 : Below w11.heap.size w11 w370 := below_full B366 B366.size B371
        have B374 : Below w273.heap.size w273 w370 := below_full B367 B367.size B371
        have B375 : Below w353.heap.size w353 w370 := below_full B368 B368.size B371
        have B376 : Below w363.heap.size w363 w370 := B371
        refine EL_nil ?_
        refine ⟨rfl, .inr B373, ?_⟩
        refine EH_one 8 (by kernel_rfl) ⟨_, rfl, ?_⟩
        refine EL_storeAll (v := .agg (([r0, r1, r2] : List Int).map (Value.int .u64)).toArray) (cs' := (([r0, r1, r2] : List Int).map (Value.int .u64)).toArray) rfl rfl rfl (A275'.below B374) (by first | rfl | (simp; done) | (simp; omega)) (Eq.trans (show _ = some 3 from by kernel_rfl) (congrArg some (by first | (simp; done) | (simp; omega) | rfl))) (ints_oneCell _ _) ?_
        intro w377 A378 K379 z380
        have A378' : Arr w377 b272 49 (([r0, r1, r2] : List Int).map (Value.int .u64)) := by simpa using A378
        have B381 : Below w.heap.size w w377 := below_kept B372 K379 (Nat.le_trans B14.size (Nat.le_of_eq k274.symm)) (B372.size)
        have B382 : Below w11.heap.size w11 w377 := below_kept B373 K379 (Nat.le_trans (Nat.le_refl _) (Nat.le_of_eq k274.symm)) (B373.size)
        have A383 : Arr w377 b352 49 ((List.replicate 3 0).map (Value.int .u64)) := (A355'.below B375).grew K379 (by simp; omega)
        refine EL_nil ?_
        refine ⟨rfl, .inr B382, ?_⟩
        refine EH_one 9 (by kernel_rfl) ⟨_, rfl, ?_⟩
        refine EL_storeAll (v := .agg ((wof NS).map (Value.int .u64)).toArray) (cs' := ((wof NS).map (Value.int .u64)).toArray) rfl rfl rfl A383 (by first | rfl | (simp; done) | (simp; omega)) (Eq.trans (show _ = some 3 from by kernel_rfl) (congrArg some (by first | (simp; done) | (simp; omega) | rfl))) (ints_oneCell _ _) ?_
        intro w384 A385 K386 z387
        have A385' : Arr w384 b352 49 ((wof NS).map (Value.int .u64)) := by simpa using A385
        have B388 : Below w.heap.size w w384 := below_kept B381 K386 (Nat.le_trans B278.size (Nat.le_of_eq k354.symm)) (B381.size)
        have B389 : Below w11.heap.size w11 w384 := below_kept B382 K386 (Nat.le_trans B279.size (Nat.le_of_eq k354.symm)) (B382.size)
        have A390 : Arr w384 b272 49 (([r0, r1, r2] : List Int).map (Value.int .u64)) := A378'.grew K386 (by simp; omega)
        refine EL_nil ?_
        refine ⟨rfl, .inl (by kernel_rfl), ?_⟩
        refine EH_done (by kernel_rfl) ?_
        refine thn_n ?_
        exact ⟨b272, b352, rfl, rfl, rfl, rfl, rfl, Nat.le_trans B14.size (Nat.le_of_eq k274.symm), Nat.le_trans B278.size (Nat.le_of_eq k354.symm), by omega, B388, A390, A385'⟩
    · refine EL_alloc (z := .agg #[.int .u64 0, .int .u64 0, .int .u64 0]) (List.replicate 3 (.int .u64 0)) rfl (by kernel_rfl) rfl ?_
      intro b391 w392 k393 A394 B395 z396
      have B397 : Below w.heap.size w w392 := below_full B14 B14.size B395
      have B398 : Below w11.heap.size w11 w392 := B395
      have A394' : Arr w392 b391 49 ((List.replicate 3 0).map (Value.int .u64)) := A394
      refine EL_nil ?_
      refine ⟨rfl, .inr B398, ?_⟩
      refine EH_two 2 6 (by kernel_rfl) ⟨_, rfl, ?_⟩ ⟨_, rfl, ?_⟩
      · have hc399 := pget_c (cutV v0 0 16) (k.take 16) w392 (R15.below B397) (by simp; omega)
        rw [rW] at hc399
        refine EL_ret [(cutV v0 0 16)] rfl Try.func24 rfl nm24 rfl (hc399) ?_
        rintro _ w400 ⟨rfl, B401⟩
        have B402 : Below w.heap.size w w400 := below_full B397 B397.size B401
        have B403 : Below w11.heap.size w11 w400 := below_full B398 B398.size B401
        have B404 : Below w392.heap.size w392 w400 := B401
        refine EL_nil ?_
        refine ⟨rfl, .inr B403, ?_⟩
        refine EH_two 5 6 (by kernel_rfl) ⟨_, rfl, ?_⟩ ⟨_, rfl, ?_⟩
        · have hc405 := pget_c (cutV v0 16 k.length) (k.drop 16) w400 (R17.below B402) (by simp; omega)
          rw [← hNS] at hc405
          refine EL_ret [(cutV v0 16 k.length)] rfl Try.func24 rfl nm24 rfl (hc405) ?_
          rintro _ w406 ⟨rfl, B407⟩
          have B408 : Below w.heap.size w w406 := below_full B402 B402.size B407
          have B409 : Below w11.heap.size w11 w406 := below_full B403 B403.size B407
          have B410 : Below w392.heap.size w392 w406 := below_full B404 B404.size B407
          have B411 : Below w400.heap.size w400 w406 := B407
          refine EL_nil ?_
          refine ⟨rfl, .inr B409, ?_⟩
          refine EH_one 6 (by kernel_rfl) ⟨_, rfl, ?_⟩
          refine EL_alloc (z := .agg #[.int .u64 0, .int .u64 0, .int .u64 0]) (List.replicate 3 (.int .u64 0)) rfl (by kernel_rfl) rfl ?_
          intro b412 w413 k414 A415 B416 z417
          have ne418 : b391 < b412 := by have := ((A394'.below B410)).lt; omega
          have B419 : Below w.heap.size w w413 := below_full B408 B408.size B416
          have B420 : Below w11.heap.size w11 w413 := below_full B409 B409.size B416
          have B421 : Below w392.heap.size w392 w413 := below_full B410 B410.size B416
          have B422 : Below w400.heap.size w400 w413 := below_full B411 B411.size B416
          have B423 : Below w406.heap.size w406 w413 := B416
          have A415' : Arr w413 b412 49 ((List.replicate 3 0).map (Value.int .u64)) := A415
          refine EL_nil ?_
          refine ⟨rfl, .inr B420, ?_⟩
          refine EH_one 8 (by kernel_rfl) ⟨_, rfl, ?_⟩
          refine EL_storeAll (v := .agg (([r0, r1, r2] : List Int).map (Value.int .u64)).toArray) (cs' := (([r0, r1, r2] : List Int).map (Value.int .u64)).toArray) rfl rfl rfl A415' (by first | rfl | (simp; done) | (simp; omega)) (Eq.trans (show _ = some 3 from by kernel_rfl) (congrArg some (by first | (simp; done) | (simp; omega) | rfl))) (ints_oneCell _ _) ?_
          intro w424 A425 K426 z427
          have A425' : Arr w424 b412 49 (([r0, r1, r2] : List Int).map (Value.int .u64)) := by simpa using A425
          have B428 : Below w.heap.size w w424 := below_kept B419 K426 (Nat.le_trans B408.size (Nat.le_of_eq k414.symm)) (B419.size)
          have B429 : Below w11.heap.size w11 w424 := below_kept B420 K426 (Nat.le_trans B409.size (Nat.le_of_eq k414.symm)) (B420.size)
          have B430 : Below w392.heap.size w392 w424 := below_kept B421 K426 (Nat.le_trans B410.size (Nat.le_of_eq k414.symm)) (B421.size)
          have B431 : Below w400.heap.size w400 w424 := below_kept B422 K426 (Nat.le_trans B411.size (Nat.le_of_eq k414.symm)) (B422.size)
          have B432 : Below w406.heap.size w406 w424 := below_kept B423 K426 (Nat.le_trans (Nat.le_refl _) (Nat.le_of_eq k414.symm)) (B423.size)
          have A433 : Arr w424 b391 49 ((List.replicate 3 0).map (Value.int .u64)) := (A394'.below B421).grew K426 (by simp; omega)
          refine EL_nil ?_
          refine ⟨rfl, .inr B429, ?_⟩
          refine EH_one 9 (by kernel_rfl) ⟨_, rfl, ?_⟩
          refine EL_storeAll (v := .agg ((wof NS).map (Value.int .u64)).toArray) (cs' := ((wof NS).map (Value.int .u64)).toArray) rfl rfl rfl A433 (by first | rfl | (simp; done) | (simp; omega)) (Eq.trans (show _ = some 3 from by kernel_rfl) (congrArg some (by first | (simp; done) | (simp; omega) | rfl))) (ints_oneCell _ _) ?_
          intro w434 A435 K436 z437
          have A435' : Arr w434 b391 49 ((wof NS).map (Value.int .u64)) := by simpa using A435
          have B438 : Below w.heap.size w w434 := below_kept B428 K436 (Nat.le_trans B14.size (Nat.le_of_eq k393.symm)) (B428.size)
          have B439 : Below w11.heap.size w11 w434 := below_kept B429 K436 (Nat.le_trans (Nat.le_refl _) (Nat.le_of_eq k393.symm)) (B429.size)
          have A440 : Arr w434 b412 49 (([r0, r1, r2] : List Int).map (Value.int .u64)) := A425'.grew K436 (by simp; omega)
          refine EL_nil ?_
          refine ⟨rfl, .inl (by kernel_rfl), ?_⟩
          refine EH_done (by kernel_rfl) ?_
          refine thn_n ?_
          exact ⟨b412, b391, rfl, rfl, rfl, rfl, rfl, Nat.le_trans B408.size (Nat.le_of_eq k414.symm), Nat.le_trans B14.size (Nat.le_of_eq k393.symm), by omega, B438, A440, A435'⟩
        · refine EL_alloc (z := .agg #[.int .u64 0, .int .u64 0, .int .u64 0]) (List.replicate 3 (.int .u64 0)) rfl (by kernel_rfl) rfl ?_
          intro b441 w442 k443 A444 B445 z446
          have ne447 : b391 < b441 := by have := ((A394'.below B404)).lt; omega
          have B448 : Below w.heap.size w w442 := below_full B402 B402.size B445
          have B449 : Below w11.heap.size w11 w442 := below_full B403 B403.size B445
          have B450 : Below w392.heap.size w392 w442 := below_full B404 B404.size B445
          have B451 : Below w400.heap.size w400 w442 := B445
          have A444' : Arr w442 b441 49 ((List.replicate 3 0).map (Value.int .u64)) := A444
          refine EL_nil ?_
          refine ⟨rfl, .inr B449, ?_⟩
          refine EH_one 5 (by kernel_rfl) ⟨_, rfl, ?_⟩
          have hc452 := pget_c (cutV v0 16 k.length) (k.drop 16) w442 (R17.below B448) (by simp; omega)
          rw [← hNS] at hc452
          refine EL_ret [(cutV v0 16 k.length)] rfl Try.func24 rfl nm24 rfl (hc452) ?_
          rintro _ w453 ⟨rfl, B454⟩
          have B455 : Below w.heap.size w w453 := below_full B448 B448.size B454
          have B456 : Below w11.heap.size w11 w453 := below_full B449 B449.size B454
          have B457 : Below w392.heap.size w392 w453 := below_full B450 B450.size B454
          have B458 : Below w400.heap.size w400 w453 := below_full B451 B451.size B454
          have B459 : Below w442.heap.size w442 w453 := B454
          refine EL_nil ?_
          refine ⟨rfl, .inr B456, ?_⟩
          refine EH_one 8 (by kernel_rfl) ⟨_, rfl, ?_⟩
          refine EL_storeAll (v := .agg (([r0, r1, r2] : List Int).map (Value.int .u64)).toArray) (cs' := (([r0, r1, r2] : List Int).map (Value.int .u64)).toArray) rfl rfl rfl (A444'.below B459) (by first | rfl | (simp; done) | (simp; omega)) (Eq.trans (show _ = some 3 from by kernel_rfl) (congrArg some (by first | (simp; done) | (simp; omega) | rfl))) (ints_oneCell _ _) ?_
          intro w460 A461 K462 z463
          have A461' : Arr w460 b441 49 (([r0, r1, r2] : List Int).map (Value.int .u64)) := by simpa using A461
          have B464 : Below w.heap.size w w460 := below_kept B455 K462 (Nat.le_trans B402.size (Nat.le_of_eq k443.symm)) (B455.size)
          have B465 : Below w11.heap.size w11 w460 := below_kept B456 K462 (Nat.le_trans B403.size (Nat.le_of_eq k443.symm)) (B456.size)
          have B466 : Below w392.heap.size w392 w460 := below_kept B457 K462 (Nat.le_trans B404.size (Nat.le_of_eq k443.symm)) (B457.size)
          have B467 : Below w400.heap.size w400 w460 := below_kept B458 K462 (Nat.le_trans (Nat.le_refl _) (Nat.le_of_eq k443.symm)) (B458.size)
          have A468 : Arr w460 b391 49 ((List.replicate 3 0).map (Value.int .u64)) := (A394'.below B457).grew K462 (by simp; omega)
          refine EL_nil ?_
          refine ⟨rfl, .inr B465, ?_⟩
          refine EH_one 9 (by kernel_rfl) ⟨_, rfl, ?_⟩
          refine EL_storeAll (v := .agg ((wof NS).map (Value.int .u64)).toArray) (cs' := ((wof NS).map (Value.int .u64)).toArray) rfl rfl rfl A468 (by first | rfl | (simp; done) | (simp; omega)) (Eq.trans (show _ = some 3 from by kernel_rfl) (congrArg some (by first | (simp; done) | (simp; omega) | rfl))) (ints_oneCell _ _) ?_
          intro w469 A470 K471 z472
          have A470' : Arr w469 b391 49 ((wof NS).map (Value.int .u64)) := by simpa using A470
          have B473 : Below w.heap.size w w469 := below_kept B464 K471 (Nat.le_trans B14.size (Nat.le_of_eq k393.symm)) (B464.size)
          have B474 : Below w11.heap.size w11 w469 := below_kept B465 K471 (Nat.le_trans (Nat.le_refl _) (Nat.le_of_eq k393.symm)) (B465.size)
          have A475 : Arr w469 b441 49 (([r0, r1, r2] : List Int).map (Value.int .u64)) := A461'.grew K471 (by simp; omega)
          refine EL_nil ?_
          refine ⟨rfl, .inl (by kernel_rfl), ?_⟩
          refine EH_done (by kernel_rfl) ?_
          refine thn_n ?_
          exact ⟨b441, b391, rfl, rfl, rfl, rfl, rfl, Nat.le_trans B402.size (Nat.le_of_eq k443.symm), Nat.le_trans B14.size (Nat.le_of_eq k393.symm), by omega, B473, A475, A470'⟩
      · refine EL_alloc (z := .agg #[.int .u64 0, .int .u64 0, .int .u64 0]) (List.replicate 3 (.int .u64 0)) rfl (by kernel_rfl) rfl ?_
        intro b476 w477 k478 A479 B480 z481
        have ne482 : b391 < b476 := by have := (A394').lt; omega
        have B483 : Below w.heap.size w w477 := below_full B397 B397.size B480
        have B484 : Below w11.heap.size w11 w477 := below_full B398 B398.size B480
        have B485 : Below w392.heap.size w392 w477 := B480
        have A479' : Arr w477 b476 49 ((List.replicate 3 0).map (Value.int .u64)) := A479
        refine EL_nil ?_
        refine ⟨rfl, .inr B484, ?_⟩
        refine EH_one 2 (by kernel_rfl) ⟨_, rfl, ?_⟩
        have hc486 := pget_c (cutV v0 0 16) (k.take 16) w477 (R15.below B483) (by simp; omega)
        rw [rW] at hc486
        refine EL_ret [(cutV v0 0 16)] rfl Try.func24 rfl nm24 rfl (hc486) ?_
        rintro _ w487 ⟨rfl, B488⟩
        have B489 : Below w.heap.size w w487 := below_full B483 B483.size B488
        have B490 : Below w11.heap.size w11 w487 := below_full B484 B484.size B488
        have B491 : Below w392.heap.size w392 w487 := below_full B485 B485.size B488
        have B492 : Below w477.heap.size w477 w487 := B488
        refine EL_nil ?_
        refine ⟨rfl, .inr B490, ?_⟩
        refine EH_one 5 (by kernel_rfl) ⟨_, rfl, ?_⟩
        have hc493 := pget_c (cutV v0 16 k.length) (k.drop 16) w487 (R17.below B489) (by simp; omega)
        rw [← hNS] at hc493
        refine EL_ret [(cutV v0 16 k.length)] rfl Try.func24 rfl nm24 rfl (hc493) ?_
        rintro _ w494 ⟨rfl, B495⟩
        have B496 : Below w.heap.size w w494 := below_full B489 B489.size B495
        have B497 : Below w11.heap.size w11 w494 := below_full B490 B490.size B495
        have B498 : Below w392.heap.size w392 w494 := below_full B491 B491.size B495
        have B499 : Below w477.heap.size w477 w494 := below_full B492 B492.size B495
        have B500 : Below w487.heap.size w487 w494 := B495
        refine EL_nil ?_
        refine ⟨rfl, .inr B497, ?_⟩
        refine EH_one 8 (by kernel_rfl) ⟨_, rfl, ?_⟩
        refine EL_storeAll (v := .agg (([r0, r1, r2] : List Int).map (Value.int .u64)).toArray) (cs' := (([r0, r1, r2] : List Int).map (Value.int .u64)).toArray) rfl rfl rfl (A479'.below B499) (by first | rfl | (simp; done) | (simp; omega)) (Eq.trans (show _ = some 3 from by kernel_rfl) (congrArg some (by first | (simp; done) | (simp; omega) | rfl))) (ints_oneCell _ _) ?_
        intro w501 A502 K503 z504
        have A502' : Arr w501 b476 49 (([r0, r1, r2] : List Int).map (Value.int .u64)) := by simpa using A502
        have B505 : Below w.heap.size w w501 := below_kept B496 K503 (Nat.le_trans B397.size (Nat.le_of_eq k478.symm)) (B496.size)
        have B506 : Below w11.heap.size w11 w501 := below_kept B497 K503 (Nat.le_trans B398.size (Nat.le_of_eq k478.symm)) (B497.size)
        have B507 : Below w392.heap.size w392 w501 := below_kept B498 K503 (Nat.le_trans (Nat.le_refl _) (Nat.le_of_eq k478.symm)) (B498.size)
        have A508 : Arr w501 b391 49 ((List.replicate 3 0).map (Value.int .u64)) := (A394'.below B498).grew K503 (by simp; omega)
        refine EL_nil ?_
        refine ⟨rfl, .inr B506, ?_⟩
        refine EH_one 9 (by kernel_rfl) ⟨_, rfl, ?_⟩
        refine EL_storeAll (v := .agg ((wof NS).map (Value.int .u64)).toArray) (cs' := ((wof NS).map (Value.int .u64)).toArray) rfl rfl rfl A508 (by first | rfl | (simp; done) | (simp; omega)) (Eq.trans (show _ = some 3 from by kernel_rfl) (congrArg some (by first | (simp; done) | (simp; omega) | rfl))) (ints_oneCell _ _) ?_
        intro w509 A510 K511 z512
        have A510' : Arr w509 b391 49 ((wof NS).map (Value.int .u64)) := by simpa using A510
        have B513 : Below w.heap.size w w509 := below_kept B505 K511 (Nat.le_trans B14.size (Nat.le_of_eq k393.symm)) (B505.size)
        have B514 : Below w11.heap.size w11 w509 := below_kept B506 K511 (Nat.le_trans (Nat.le_refl _) (Nat.le_of_eq k393.symm)) (B506.size)
        have A515 : Arr w509 b476 49 (([r0, r1, r2] : List Int).map (Value.int .u64)) := A502'.grew K511 (by simp; omega)
        refine EL_nil ?_
        refine ⟨rfl, .inl (by kernel_rfl), ?_⟩
        refine EH_done (by kernel_rfl) ?_
        refine thn_n ?_
        exact ⟨b476, b391, rfl, rfl, rfl, rfl, rfl, Nat.le_trans B397.size (Nat.le_of_eq k478.symm), Nat.le_trans B14.size (Nat.le_of_eq k393.symm), by omega, B513, A515, A510'⟩
  · rintro E516 w517 ⟨q6, q7, e518, e519, e520, e521, e522, hq6, hq7, hq67, B523, A524, A525⟩
    refine EC_seq ?_
    refine EC_reg ?_
    refine EL_val (ptr q6 0) w517 rfl (r_indexA (i := 0) (by exact e518) rfl (by omega) (by omega) Try.underlying49 (by kernel_rfl)) ?_
    refine EL_val (.int .u64 r0) w517 rfl (r_loadA rfl A524 (u := .int .u64 r0) rfl Try.underlying47 rfl) ?_
    refine EL_int (r0 % 268435456 + r0 / 17179869184 % 67108864 * 17179869184) rfl (r_and1 rfl rfl (by omega)) ?_
    intro x526 hx526
    refine EL_val (ptr q6 0) w517 rfl (r_indexA (i := 0) (by exact e518) rfl (by omega) (by omega) Try.underlying49 (by kernel_rfl)) ?_
    refine EL_storeA (j := 0) (u := .int .u64 x526) rfl rfl A524 (by first | (simp; omega) | simp) rfl (by kernel_rfl) ?_
    intro w527 A528 K529 z530
    have A528' : Arr w527 q6 49 ((([x526, r1, r2] : List Int)).map (Value.int .u64)) := A528
    have B531 : Below w.heap.size w w527 := below_kept B523 K529 (Nat.le_trans (Nat.le_refl _) hq6) (B523.size)
    have A532 : Arr w527 q7 49 ((wof NS).map (Value.int .u64)) := A525.grew K529 (by simp; omega)
    refine EL_nil ?_
    refine thn_n ?_
    refine EC_seq ?_
    refine EC_reg ?_
    refine EL_val (ptr q6 1) w527 rfl (r_indexA (i := 1) (by exact e518) rfl (by omega) (by omega) Try.underlying49 (by kernel_rfl)) ?_
    refine EL_val (.int .u64 r1) w527 rfl (r_loadA rfl A528' (u := .int .u64 r1) rfl Try.underlying47 rfl) ?_
    refine EL_int (r1 / 4 % 67108864 * 4 + r1 / 17179869184 % 67108864 * 17179869184) rfl (r_and2 rfl rfl (by omega)) ?_
    intro x533 hx533
    refine EL_val (ptr q6 1) w527 rfl (r_indexA (i := 1) (by exact e518) rfl (by omega) (by omega) Try.underlying49 (by kernel_rfl)) ?_
    refine EL_storeA (j := 1) (u := .int .u64 x533) rfl rfl A528' (by first | (simp; omega) | simp) rfl (by kernel_rfl) ?_
    intro w534 A535 K536 z537
    have A535' : Arr w534 q6 49 ((([x526, x533, r2] : List Int)).map (Value.int .u64)) := A535
    have B538 : Below w.heap.size w w534 := below_kept B531 K536 (Nat.le_trans (Nat.le_refl _) hq6) (B531.size)
    have A539 : Arr w534 q7 49 ((wof NS).map (Value.int .u64)) := A532.grew K536 (by simp; omega)
    refine EL_nil ?_
    refine thn_n ?_
    refine EC_seq ?_
    refine EC_reg ?_
    have er2 : r2 = 0 := by have := num_bd16 (b := k.take 16) (by simp; omega); omega
    have eR : ([x526, x533, r2] : List Int) = wof R := wof_of (by omega) (by omega) (by omega) (by rw [hR]; unfold cl; omega)
    have bR : 0 ≤ R ∧ R < 21267647932558653966460912964485513216 := by rw [hR]; exact cl_bd _
    have A540 : Arr w534 q6 49 ((wof R).map (Value.int .u64)) := by rw [← eR]; exact A535'
    refine EL_alloc (z := .agg #[.int .u64 0, .int .u64 0, .int .u64 0]) (List.replicate 3 (.int .u64 0)) rfl (by kernel_rfl) rfl ?_
    intro b541 w542 k543 A544 B545 z546
    have ne547 : q6 < b541 := by have := (A540).lt; omega
    have ne548 : q7 < b541 := by have := (A539).lt; omega
    have B549 : Below w.heap.size w w542 := below_full B538 B538.size B545
    have B550 : Below w534.heap.size w534 w542 := B545
    have A544' : Arr w542 b541 49 ((List.replicate 3 0).map (Value.int .u64)) := A544
    have A551 : Arr w542 b541 49 ((wof 0).map (Value.int .u64)) := A544'
    refine EL_nil ?_
    refine thn_n ?_
    refine EC_seq ?_
    refine EC_block ?_
    refine EC_loop (fun m' E' w' => ∃ tv : Value, ∃ tl : List UInt8, ∃ A : Int, m' = tl.length ∧ E' 1 = tv ∧ E' 4 = .slice none 0 0 ∧ E' 5 = .int .i64 0 ∧ E' 6 = ptr q6 ∧ E' 7 = ptr q7 ∧ E' 8 = ptr b541 ∧ (0 ≤ A ∧ A < 2722258935367507707706996859454145691648) ∧ (tl.length ≤ t.length) ∧ (accS R (A % 1361129467683753853853498429727072845819) tl = accS R 0 t) ∧ (Bs w tv tl) ∧ Below w.heap.size w w' ∧ Arr w' q6 49 ((wof R).map (Value.int .u64)) ∧ Arr w' q7 49 ((wof NS).map (Value.int .u64)) ∧ Arr w' b541 49 ((wof A).map (Value.int .u64))) _ ⟨v1, t, 0, rfl, (by exact e520), (by exact e521), (by exact e522), (by exact e518), (by exact e519), rfl, by omega, by omega, rfl, H1, B549, (A540.below B550), (A539.below B550), A551⟩ ?_
    rintro _ E552 w553 ⟨tv, tl, A, rfl, e554, e555, e556, e557, e558, e559, hA, htl, hv, hrow, B560, A561, A562, A563⟩
    refine EC_seq ?_
    refine EC_seq ?_
    refine EC_reg ?_
    refine EL_val tv w553 rfl (r_move (by exact e554)) ?_
    refine EL_val (.int .i64 (tl.length : Int)) w553 rfl (lenB (r_len rfl (hrow.below B560) Try.underlying22)) ?_
    refine EL_val (.bool (decide (0 < (tl.length : Int)))) w553 rfl (r_gtr rfl rfl) ?_
    refine EL_nil ?_
    refine thn_n ?_
    refine EC_if (p := 0 < (tl.length : Int)) rfl (fun h564 => ?_) (fun h564 => ?_)
    · refine EC_skip ?_
      refine thn_n ?_
      refine EC_block ?_
      refine EC_seq ?_
      refine EC_reg ?_
      refine EL_val tv w553 rfl (r_move (by exact e554)) ?_
      refine EL_val (.int .i64 (tl.length : Int)) w553 rfl (lenB (r_len rfl (hrow.below B560) Try.underlying22)) ?_
      refine EL_int (if (tl.length : Int) < 16 then (tl.length : Int) else 16) rfl (r_min rfl rfl) ?_
      intro x565 hx565
      refine EL_val (.int .i64 x565) w553 rfl (r_assign rfl) ?_
      refine EL_nil ?_
      refine thn_n ?_
      refine EC_cut (fun E' w' => ∃ A2 : Int, E' 1 = tv ∧ E' 4 = .slice none 0 0 ∧ E' 5 = .int .i64 0 ∧ E' 6 = ptr q6 ∧ E' 7 = ptr q7 ∧ E' 8 = ptr b541 ∧ E' 9 = .int .i64 x565 ∧ (0 ≤ A2 ∧ A2 < 2722258935367507707706996859454145691648) ∧ (A2 % 1361129467683753853853498429727072845819 = (A % 1361129467683753853853498429727072845819 + num (tl.take 16 ++ [1])) * R % 1361129467683753853853498429727072845819) ∧ Below w.heap.size w w' ∧ Arr w' q6 49 ((wof R).map (Value.int .u64)) ∧ Arr w' q7 49 ((wof NS).map (Value.int .u64)) ∧ Arr w' b541 49 ((wof A2).map (Value.int .u64))) ?_ ?_
      · refine EC_until 13 (by kernel_rfl) ?_
        intro w566 B567 z568
        have B569 : Below w.heap.size w w566 := below_full B560 B560.size B567
        have B570 : Below w553.heap.size w553 w566 := B567
        refine EH_take 0 rfl (by kernel_rfl) (by kernel_rfl) (by kernel_rfl) rfl 40 (by kernel_rfl) (.agg ((wof A).map (Value.int .u64)).toArray) rfl (fun _ hw => r_loadAll (by exact e559) ((A563.below B570).below hw) Try.underlying49 rfl (Eq.trans (show _ = some 3 from by kernel_rfl) (congrArg some (by first | (simp; done) | (simp; omega) | rfl)))) (Below.refl _ _) ?_
        refine EH_take 3 rfl (by kernel_rfl) (by kernel_rfl) (by kernel_rfl) rfl 40 (by kernel_rfl) tv rfl (fun _ hw => r_move (by exact e554)) (Below.refl _ _) ?_
        refine EH_take 4 rfl (by kernel_rfl) (by kernel_rfl) (by kernel_rfl) rfl 40 (by kernel_rfl) (.int .i64 x565) rfl (fun _ hw => r_move rfl) (Below.refl _ _) ?_
        refine EH_take 5 rfl (by kernel_rfl) (by kernel_rfl) (by kernel_rfl) rfl 40 (by kernel_rfl) (cutV tv 0 ((x565 : Int).toNat)) rfl (fun _ hw => r_slice rfl ((hrow.below B569).below hw) Try.underlying22 (by kernel_rfl) 0 ((x565 : Int).toNat) (by first | omega | (simp; omega) | simp) (by first | omega | (simp; omega) | simp) (.inl ⟨rfl, rfl⟩) (.inr ⟨_, _, rfl, (show _ = Value.int .i64 ((x565 : Int).toNat : Int) from by rw [Int.toNat_of_nonneg (by omega)]; exact rfl)⟩)) (Below.refl _ _) ?_
        have R571 : Bs w (cutV tv 0 ((x565 : Int).toNat)) (tl.take ((x565 : Int).toNat)) := Bs.upto hrow ((x565 : Int).toNat) (by first | omega | (simp; omega) | simp)
        have L572 : (tl.take ((x565 : Int).toNat)).length = ((x565 : Int).toNat) - 0 := by first | (simp; done) | (simp; omega)
        refine EH_take 11 rfl (by kernel_rfl) (by kernel_rfl) (by kernel_rfl) rfl 40 (by kernel_rfl) (.agg ((wof R).map (Value.int .u64)).toArray) rfl (fun _ hw => r_loadAll (by exact e557) ((A561.below B570).below hw) Try.underlying49 rfl (Eq.trans (show _ = some 3 from by kernel_rfl) (congrArg some (by first | (simp; done) | (simp; omega) | rfl)))) (Below.refl _ _) ?_
        refine EH_three 1 2 7 (by kernel_rfl) ⟨_, rfl, ?_⟩ ⟨_, rfl, ?_⟩ ⟨_, rfl, ?_⟩
        · obtain ⟨x573, hx573⟩ : ∃ z : Int, z = A % 1361129467683753853853498429727072845819 := ⟨_, rfl⟩
          have hc574 := wleast_c A w566 (by omega)
          rw [← hx573] at hc574
          refine EL_ret [.agg ((wof A).map (Value.int .u64)).toArray] rfl Try.func25 rfl nm25 rfl (hc574) ?_
          rintro _ w575 ⟨rfl, B576⟩
          have B577 : Below w.heap.size w w575 := below_full B569 B569.size B576
          have B578 : Below w553.heap.size w553 w575 := below_full B570 B570.size B576
          have B579 : Below w566.heap.size w566 w575 := B576
          refine EL_nil ?_
          refine ⟨rfl, .inr B579, ?_⟩
          refine EH_two 2 7 (by kernel_rfl) ⟨_, rfl, ?_⟩ ⟨_, rfl, ?_⟩
          · refine EL_lit w575.heap.size #[] elB rfl (by decide) rfl (Nat.le_refl _) (by kernel_rfl) ?_
            intro v580 w581 O582 B583 k584 z585
            have B586 : Below w.heap.size w w581 := below_full B577 B577.size B583
            have B587 : Below w553.heap.size w553 w581 := below_full B578 B578.size B583
            have B588 : Below w566.heap.size w566 w581 := below_full B579 B579.size B583
            have B589 : Below w575.heap.size w575 w581 := B583
            have O582' := own_eq (l := ([] : List UInt8)) O582 (by simp [bof_val, byt])
            refine EL_nil ?_
            refine ⟨rfl, .inr B588, ?_⟩
            refine EH_two 6 7 (by kernel_rfl) ⟨_, rfl, ?_⟩ ⟨_, rfl, ?_⟩
            · refine EL_append (v := v580) (xs := ([] : List UInt8).map byt) (ys := (tl.take ((x565 : Int).toNat)).map byt) w575.heap.size elB rfl rfl rfl (by simpa using O582') (R571.below B586) (byt_one _) (by first | (simp only [List.length_map, List.length_nil]; omega) | (simp; done) | (simp; omega)) (by decide) B589.size ?_
              intro v590 w591 O592 G593 A594
              have O592' := own_app O592
              have B595 : Below w.heap.size w w591 := below_grew B586 G593 O582' B577.size (B586.size)
              have B596 : Below w553.heap.size w553 w591 := below_grew B587 G593 O582' B578.size (B587.size)
              have B597 : Below w566.heap.size w566 w591 := below_grew B588 G593 O582' B579.size (B588.size)
              have B598 : Below w575.heap.size w575 w591 := below_grew B589 G593 O582' (Nat.le_refl _) (B589.size)
              refine EL_nil ?_
              refine ⟨rfl, .inr B597, ?_⟩
              refine EH_one 7 (by kernel_rfl) ⟨_, rfl, ?_⟩
              refine EL_lit w591.heap.size #[.int .u8 1] elB rfl (by decide) rfl (Nat.le_refl _) (by kernel_rfl) ?_
              intro v600 w601 O602 B603 k604 z605
              have B606 : Below w.heap.size w w601 := below_full B595 B595.size B603
              have B607 : Below w553.heap.size w553 w601 := below_full B596 B596.size B603
              have B608 : Below w566.heap.size w566 w601 := below_full B597 B597.size B603
              have B609 : Below w575.heap.size w575 w601 := below_full B598 B598.size B603
              have B610 : Below w591.heap.size w591 w601 := B603
              have O602' := own_eq (l := [(1 : UInt8)]) O602 (by simp [bof_val, byt])
              refine EL_nil ?_
              refine ⟨rfl, .inr B608, ?_⟩
              refine EH_one 8 (by kernel_rfl) ⟨_, rfl, ?_⟩
              refine EL_append (v := v590) (xs := (([] : List UInt8) ++ (tl.take ((x565 : Int).toNat))).map byt) (ys := [(1 : UInt8)].map byt) w575.heap.size elB rfl rfl rfl (by simpa using (own_below O592' B610)) (own_row O602') (byt_one _) (by first | (simp only [List.length_map, List.length_nil]; omega) | (simp; done) | (simp; omega)) (by decide) B609.size ?_
              intro v611 w612 O613 G614 A615
              have O613' := own_app O613
              have B616 : Below w.heap.size w w612 := below_grew B606 G614 (own_below O592' B610) B577.size (B606.size)
              have B617 : Below w553.heap.size w553 w612 := below_grew B607 G614 (own_below O592' B610) B578.size (B607.size)
              have B618 : Below w566.heap.size w566 w612 := below_grew B608 G614 (own_below O592' B610) B579.size (B608.size)
              have B619 : Below w575.heap.size w575 w612 := below_grew B609 G614 (own_below O592' B610) (Nat.le_refl _) (B609.size)
              refine EL_nil ?_
              refine ⟨rfl, .inr B618, ?_⟩
              refine EH_one 9 (by kernel_rfl) ⟨_, rfl, ?_⟩
              obtain ⟨x623, hx623⟩ : ∃ z : Int, z = num ((([] : List UInt8) ++ (tl.take ((x565 : Int).toNat))) ++ [(1 : UInt8)]) := ⟨_, rfl⟩
              have ex623 : x623 = num (tl.take 16 ++ [1]) := by rw [hx623, ← min_take hx565]; simp
              have bx623 := num_bd17 (b := tl.take 16) (by simp; omega)
              have nx623 := num_bd (tl.take 16 ++ [1])
              have hc622 := pget_c v611 ((([] : List UInt8) ++ (tl.take ((x565 : Int).toNat))) ++ [(1 : UInt8)]) w612 (own_row O613') (by simp; omega)
              rw [← hx623] at hc622
              refine EL_ret [v611] rfl Try.func24 rfl nm24 rfl (hc622) ?_
              rintro _ w624 ⟨rfl, B625⟩
              have B626 : Below w.heap.size w w624 := below_full B616 B616.size B625
              have B627 : Below w553.heap.size w553 w624 := below_full B617 B617.size B625
              have B628 : Below w566.heap.size w566 w624 := below_full B618 B618.size B625
              have B629 : Below w575.heap.size w575 w624 := below_full B619 B619.size B625
              have B630 : Below w612.heap.size w612 w624 := B625
              refine EL_nil ?_
              refine ⟨rfl, .inr B628, ?_⟩
              refine EH_one 10 (by kernel_rfl) ⟨_, rfl, ?_⟩
              obtain ⟨x631, hx631⟩ : ∃ z : Int, z = x573 + x623 := ⟨_, rfl⟩
              have hc632 := wadd_c x573 x623 w624 (by omega) (by omega) (by omega)
              rw [← hx631] at hc632
              refine EL_ret [.agg ((wof x573).map (Value.int .u64)).toArray, .agg ((wof x623).map (Value.int .u64)).toArray] rfl Try.func26 rfl nm26 rfl (hc632) ?_
              rintro _ w633 ⟨rfl, B634⟩
              have B635 : Below w.heap.size w w633 := below_full B626 B626.size B634
              have B636 : Below w553.heap.size w553 w633 := below_full B627 B627.size B634
              have B637 : Below w566.heap.size w566 w633 := below_full B628 B628.size B634
              have B638 : Below w575.heap.size w575 w633 := below_full B629 B629.size B634
              have B639 : Below w612.heap.size w612 w633 := below_full B630 B630.size B634
              have B640 : Below w624.heap.size w624 w633 := B634
              refine EL_nil ?_
              refine ⟨rfl, .inr B637, ?_⟩
              refine EH_one 12 (by kernel_rfl) ⟨_, rfl, ?_⟩
              obtain ⟨x642, hx642⟩ : ∃ z : Int, z = x631 * R := ⟨_, rfl⟩
              have qx642 := mul_bd (B := 2722258935367507707706996859454145691647) (C := 21267647932558653966460912964485513215) (x := x631) (y := R) (by omega) (by omega)
              rw [← hx642] at qx642
              have hc641 := wtimes_c x631 R w633 (by omega) (by omega)
              rw [← hx642] at hc641
              obtain ⟨x643, hx643⟩ : ∃ z : Int, z = x642 % 1361129467683753853853498429727072845824 + 5 * (x642 / 1361129467683753853853498429727072845824) := ⟨_, rfl⟩
              rw [← hx643] at hc641
              refine EL_ret [.agg ((wof x631).map (Value.int .u64)).toArray, .agg ((wof R).map (Value.int .u64)).toArray] rfl Try.func27 rfl nm27 rfl (hc641) ?_
              rintro _ w644 ⟨rfl, B645⟩
              have B646 : Below w.heap.size w w644 := below_full B635 B635.size B645
              have B647 : Below w553.heap.size w553 w644 := below_full B636 B636.size B645
              have B648 : Below w566.heap.size w566 w644 := below_full B637 B637.size B645
              have B649 : Below w575.heap.size w575 w644 := below_full B638 B638.size B645
              have B650 : Below w612.heap.size w612 w644 := below_full B639 B639.size B645
              have B651 : Below w624.heap.size w624 w644 := below_full B640 B640.size B645
              have B652 : Below w633.heap.size w633 w644 := B645
              refine EL_nil ?_
              refine ⟨rfl, .inr B648, ?_⟩
              refine EH_one 13 (by kernel_rfl) ⟨_, rfl, ?_⟩
              refine EL_storeAll (v := .agg ((wof x643).map (Value.int .u64)).toArray) (cs' := ((wof x643).map (Value.int .u64)).toArray) (by exact e559) rfl rfl (A563.below B647) (by first | rfl | (simp; done) | (simp; omega)) (Eq.trans (show _ = some 3 from by kernel_rfl) (congrArg some (by first | (simp; done) | (simp; omega) | rfl))) (ints_oneCell _ _) ?_
              intro w653 A654 K655 z656
              have A654' : Arr w653 b541 49 ((wof x643).map (Value.int .u64)) := by simpa using A654
              have B657 : Below w.heap.size w w653 := below_kept B646 K655 (Nat.le_trans B538.size (Nat.le_of_eq k543.symm)) (B646.size)
              have A658 : Arr w653 q6 49 ((wof R).map (Value.int .u64)) := (A561.below B647).grew K655 (by simp; omega)
              have A659 : Arr w653 q7 49 ((wof NS).map (Value.int .u64)) := (A562.below B647).grew K655 (by simp; omega)
              refine EL_nil ?_
              refine ⟨rfl, .inl (by kernel_rfl), ?_⟩
              refine EH_done (by kernel_rfl) ?_
              have hv3 : x643 % 1361129467683753853853498429727072845819 = (A % 1361129467683753853853498429727072845819 + num (tl.take 16 ++ [1])) * R % 1361129467683753853853498429727072845819 := by rw [← ex623, ← hx573, ← hx631, ← hx642]; omega
              refine thn_n ?_
              exact ⟨x643, (by exact e554), (by exact e555), (by exact e556), (by exact e557), (by exact e558), (by exact e559), rfl, by omega, hv3, B657, A658, A659, A654'⟩
            · refine EL_lit w581.heap.size #[.int .u8 1] elB rfl (by decide) rfl (Nat.le_refl _) (by kernel_rfl) ?_
              intro v660 w661 O662 B663 k664 z665
              have B666 : Below w.heap.size w w661 := below_full B586 B586.size B663
              have B667 : Below w553.heap.size w553 w661 := below_full B587 B587.size B663
              have B668 : Below w566.heap.size w566 w661 := below_full B588 B588.size B663
              have B669 : Below w575.heap.size w575 w661 := below_full B589 B589.size B663
              have B670 : Below w581.heap.size w581 w661 := B663
              have O662' := own_eq (l := [(1 : UInt8)]) O662 (by simp [bof_val, byt])
              refine EL_nil ?_
              refine ⟨rfl, .inr B668, ?_⟩
              refine EH_one 6 (by kernel_rfl) ⟨_, rfl, ?_⟩
              refine EL_append (v := v580) (xs := ([] : List UInt8).map byt) (ys := (tl.take ((x565 : Int).toNat)).map byt) w575.heap.size elB rfl rfl rfl (by simpa using (own_below O582' B670)) (R571.below B666) (byt_one _) (by first | (simp only [List.length_map, List.length_nil]; omega) | (simp; done) | (simp; omega)) (by decide) B669.size ?_
              intro v671 w672 O673 G674 A675
              have O673' := own_app O673
              have B676 : Below w.heap.size w w672 := below_grew B666 G674 (own_below O582' B670) B577.size (B666.size)
              have B677 : Below w553.heap.size w553 w672 := below_grew B667 G674 (own_below O582' B670) B578.size (B667.size)
              have B678 : Below w566.heap.size w566 w672 := below_grew B668 G674 (own_below O582' B670) B579.size (B668.size)
              have B679 : Below w575.heap.size w575 w672 := below_grew B669 G674 (own_below O582' B670) (Nat.le_refl _) (B669.size)
              have F682 := own_far O662' G674 (fun g hg => Nat.lt_of_lt_of_le ((own_lt O582') g hg) (Nat.le_refl _))
              refine EL_nil ?_
              refine ⟨rfl, .inr B678, ?_⟩
              refine EH_one 8 (by kernel_rfl) ⟨_, rfl, ?_⟩
              refine EL_append (v := v671) (xs := (([] : List UInt8) ++ (tl.take ((x565 : Int).toNat))).map byt) (ys := [(1 : UInt8)].map byt) w575.heap.size elB rfl rfl rfl (by simpa using O673') (own_row F682) (byt_one _) (by first | (simp only [List.length_map, List.length_nil]; omega) | (simp; done) | (simp; omega)) (by decide) B679.size ?_
              intro v683 w684 O685 G686 A687
              have O685' := own_app O685
              have B688 : Below w.heap.size w w684 := below_grew B676 G686 O673' B577.size (B676.size)
              have B689 : Below w553.heap.size w553 w684 := below_grew B677 G686 O673' B578.size (B677.size)
              have B690 : Below w566.heap.size w566 w684 := below_grew B678 G686 O673' B579.size (B678.size)
              have B691 : Below w575.heap.size w575 w684 := below_grew B679 G686 O673' (Nat.le_refl _) (B679.size)
              refine EL_nil ?_
              refine ⟨rfl, .inr B690, ?_⟩
              refine EH_one 9 (by kernel_rfl) ⟨_, rfl, ?_⟩
              obtain ⟨x694, hx694⟩ : ∃ z : Int, z = num ((([] : List UInt8) ++ (tl.take ((x565 : Int).toNat))) ++ [(1 : UInt8)]) := ⟨_, rfl⟩
              have ex694 : x694 = num (tl.take 16 ++ [1]) := by rw [hx694, ← min_take hx565]; simp
              have bx694 := num_bd17 (b := tl.take 16) (by simp; omega)
              have nx694 := num_bd (tl.take 16 ++ [1])
              have hc693 := pget_c v683 ((([] : List UInt8) ++ (tl.take ((x565 : Int).toNat))) ++ [(1 : UInt8)]) w684 (own_row O685') (by simp; omega)
              rw [← hx694] at hc693
              refine EL_ret [v683] rfl Try.func24 rfl nm24 rfl (hc693) ?_
              rintro _ w695 ⟨rfl, B696⟩
              have B697 : Below w.heap.size w w695 := below_full B688 B688.size B696
              have B698 : Below w553.heap.size w553 w695 := below_full B689 B689.size B696
              have B699 : Below w566.heap.size w566 w695 := below_full B690 B690.size B696
              have B700 : Below w575.heap.size w575 w695 := below_full B691 B691.size B696
              have B701 : Below w684.heap.size w684 w695 := B696
              refine EL_nil ?_
              refine ⟨rfl, .inr B699, ?_⟩
              refine EH_one 10 (by kernel_rfl) ⟨_, rfl, ?_⟩
              obtain ⟨x702, hx702⟩ : ∃ z : Int, z = x573 + x694 := ⟨_, rfl⟩
              have hc703 := wadd_c x573 x694 w695 (by omega) (by omega) (by omega)
              rw [← hx702] at hc703
              refine EL_ret [.agg ((wof x573).map (Value.int .u64)).toArray, .agg ((wof x694).map (Value.int .u64)).toArray] rfl Try.func26 rfl nm26 rfl (hc703) ?_
              rintro _ w704 ⟨rfl, B705⟩
              have B706 : Below w.heap.size w w704 := below_full B697 B697.size B705
              have B707 : Below w553.heap.size w553 w704 := below_full B698 B698.size B705
              have B708 : Below w566.heap.size w566 w704 := below_full B699 B699.size B705
              have B709 : Below w575.heap.size w575 w704 := below_full B700 B700.size B705
              have B710 : Below w684.heap.size w684 w704 := below_full B701 B701.size B705
              have B711 : Below w695.heap.size w695 w704 := B705
              refine EL_nil ?_
              refine ⟨rfl, .inr B708, ?_⟩
              refine EH_one 12 (by kernel_rfl) ⟨_, rfl, ?_⟩
              obtain ⟨x713, hx713⟩ : ∃ z : Int, z = x702 * R := ⟨_, rfl⟩
              have qx713 := mul_bd (B := 2722258935367507707706996859454145691647) (C := 21267647932558653966460912964485513215) (x := x702) (y := R) (by omega) (by omega)
              rw [← hx713] at qx713
              have hc712 := wtimes_c x702 R w704 (by omega) (by omega)
              rw [← hx713] at hc712
              obtain ⟨x714, hx714⟩ : ∃ z : Int, z = x713 % 1361129467683753853853498429727072845824 + 5 * (x713 / 1361129467683753853853498429727072845824) := ⟨_, rfl⟩
              rw [← hx714] at hc712
              refine EL_ret [.agg ((wof x702).map (Value.int .u64)).toArray, .agg ((wof R).map (Value.int .u64)).toArray] rfl Try.func27 rfl nm27 rfl (hc712) ?_
              rintro _ w715 ⟨rfl, B716⟩
              have B717 : Below w.heap.size w w715 := below_full B706 B706.size B716
              have B718 : Below w553.heap.size w553 w715 := below_full B707 B707.size B716
              have B719 : Below w566.heap.size w566 w715 := below_full B708 B708.size B716
              have B720 : Below w575.heap.size w575 w715 := below_full B709 B709.size B716
              have B721 : Below w684.heap.size w684 w715 := below_full B710 B710.size B716
              have B722 : Below w695.heap.size w695 w715 := below_full B711 B711.size B716
              have B723 : Below w704.heap.size w704 w715 := B716
              refine EL_nil ?_
              refine ⟨rfl, .inr B719, ?_⟩
              refine EH_one 13 (by kernel_rfl) ⟨_, rfl, ?_⟩
              refine EL_storeAll (v := .agg ((wof x714).map (Value.int .u64)).toArray) (cs' := ((wof x714).map (Value.int .u64)).toArray) (by exact e559) rfl rfl (A563.below B718) (by first | rfl | (simp; done) | (simp; omega)) (Eq.trans (show _ = some 3 from by kernel_rfl) (congrArg some (by first | (simp; done) | (simp; omega) | rfl))) (ints_oneCell _ _) ?_
              intro w724 A725 K726 z727
              have A725' : Arr w724 b541 49 ((wof x714).map (Value.int .u64)) := by simpa using A725
              have B728 : Below w.heap.size w w724 := below_kept B717 K726 (Nat.le_trans B538.size (Nat.le_of_eq k543.symm)) (B717.size)
              have A729 : Arr w724 q6 49 ((wof R).map (Value.int .u64)) := (A561.below B718).grew K726 (by simp; omega)
              have A730 : Arr w724 q7 49 ((wof NS).map (Value.int .u64)) := (A562.below B718).grew K726 (by simp; omega)
              refine EL_nil ?_
              refine ⟨rfl, .inl (by kernel_rfl), ?_⟩
              refine EH_done (by kernel_rfl) ?_
              have hv3 : x714 % 1361129467683753853853498429727072845819 = (A % 1361129467683753853853498429727072845819 + num (tl.take 16 ++ [1])) * R % 1361129467683753853853498429727072845819 := by rw [← ex694, ← hx573, ← hx702, ← hx713]; omega
              refine thn_n ?_
              exact ⟨x714, (by exact e554), (by exact e555), (by exact e556), (by exact e557), (by exact e558), (by exact e559), rfl, by omega, hv3, B728, A729, A730, A725'⟩
          · refine EL_lit w575.heap.size #[.int .u8 1] elB rfl (by decide) rfl (Nat.le_refl _) (by kernel_rfl) ?_
            intro v731 w732 O733 B734 k735 z736
            have B737 : Below w.heap.size w w732 := below_full B577 B577.size B734
            have B738 : Below w553.heap.size w553 w732 := below_full B578 B578.size B734
            have B739 : Below w566.heap.size w566 w732 := below_full B579 B579.size B734
            have B740 : Below w575.heap.size w575 w732 := B734
            have O733' := own_eq (l := [(1 : UInt8)]) O733 (by simp [bof_val, byt])
            refine EL_nil ?_
            refine ⟨rfl, .inr B739, ?_⟩
            refine EH_one 2 (by kernel_rfl) ⟨_, rfl, ?_⟩
            refine EL_lit w732.heap.size #[] elB rfl (by decide) rfl (Nat.le_refl _) (by kernel_rfl) ?_
            intro v741 w742 O743 B744 k745 z746
            have B747 : Below w.heap.size w w742 := below_full B737 B737.size B744
            have B748 : Below w553.heap.size w553 w742 := below_full B738 B738.size B744
            have B749 : Below w566.heap.size w566 w742 := below_full B739 B739.size B744
            have B750 : Below w575.heap.size w575 w742 := below_full B740 B740.size B744
            have B751 : Below w732.heap.size w732 w742 := B744
            have O743' := own_eq (l := ([] : List UInt8)) O743 (by simp [bof_val, byt])
            refine EL_nil ?_
            refine ⟨rfl, .inr B749, ?_⟩
            refine EH_one 6 (by kernel_rfl) ⟨_, rfl, ?_⟩
            refine EL_append (v := v741) (xs := ([] : List UInt8).map byt) (ys := (tl.take ((x565 : Int).toNat)).map byt) w732.heap.size elB rfl rfl rfl (by simpa using O743') (R571.below B747) (byt_one _) (by first | (simp only [List.length_map, List.length_nil]; omega) | (simp; done) | (simp; omega)) (by decide) B751.size ?_
            intro v752 w753 O754 G755 A756
            have O754' := own_app O754
            have B757 : Below w.heap.size w w753 := below_grew B747 G755 O743' B737.size (B747.size)
            have B758 : Below w553.heap.size w553 w753 := below_grew B748 G755 O743' B738.size (B748.size)
            have B759 : Below w566.heap.size w566 w753 := below_grew B749 G755 O743' B739.size (B749.size)
            have B760 : Below w575.heap.size w575 w753 := below_grew B750 G755 O743' B740.size (B750.size)
            have B761 : Below w732.heap.size w732 w753 := below_grew B751 G755 O743' (Nat.le_refl _) (B751.size)
            refine EL_nil ?_
            refine ⟨rfl, .inr B759, ?_⟩
            refine EH_one 8 (by kernel_rfl) ⟨_, rfl, ?_⟩
            refine EL_append (v := v752) (xs := (([] : List UInt8) ++ (tl.take ((x565 : Int).toNat))).map byt) (ys := [(1 : UInt8)].map byt) w732.heap.size elB rfl rfl rfl (by simpa using O754') ((own_row O733').below B761) (byt_one _) (by first | (simp only [List.length_map, List.length_nil]; omega) | (simp; done) | (simp; omega)) (by decide) B761.size ?_
            intro v763 w764 O765 G766 A767
            have O765' := own_app O765
            have B768 : Below w.heap.size w w764 := below_grew B757 G766 O754' B737.size (B757.size)
            have B769 : Below w553.heap.size w553 w764 := below_grew B758 G766 O754' B738.size (B758.size)
            have B770 : Below w566.heap.size w566 w764 := below_grew B759 G766 O754' B739.size (B759.size)
            have B771 : Below w575.heap.size w575 w764 := below_grew B760 G766 O754' B740.size (B760.size)
            have B772 : Below w732.heap.size w732 w764 := below_grew B761 G766 O754' (Nat.le_refl _) (B761.size)
            refine EL_nil ?_
            refine ⟨rfl, .inr B770, ?_⟩
            refine EH_one 9 (by kernel_rfl) ⟨_, rfl, ?_⟩
            obtain ⟨x775, hx775⟩ : ∃ z : Int, z = num ((([] : List UInt8) ++ (tl.take ((x565 : Int).toNat))) ++ [(1 : UInt8)]) := ⟨_, rfl⟩
            have ex775 : x775 = num (tl.take 16 ++ [1]) := by rw [hx775, ← min_take hx565]; simp
            have bx775 := num_bd17 (b := tl.take 16) (by simp; omega)
            have nx775 := num_bd (tl.take 16 ++ [1])
            have hc774 := pget_c v763 ((([] : List UInt8) ++ (tl.take ((x565 : Int).toNat))) ++ [(1 : UInt8)]) w764 (own_row O765') (by simp; omega)
            rw [← hx775] at hc774
            refine EL_ret [v763] rfl Try.func24 rfl nm24 rfl (hc774) ?_
            rintro _ w776 ⟨rfl, B777⟩
            have B778 : Below w.heap.size w w776 := below_full B768 B768.size B777
            have B779 : Below w553.heap.size w553 w776 := below_full B769 B769.size B777
            have B780 : Below w566.heap.size w566 w776 := below_full B770 B770.size B777
            have B781 : Below w575.heap.size w575 w776 := below_full B771 B771.size B777
            have B782 : Below w732.heap.size w732 w776 := below_full B772 B772.size B777
            have B783 : Below w764.heap.size w764 w776 := B777
            refine EL_nil ?_
            refine ⟨rfl, .inr B780, ?_⟩
            refine EH_one 10 (by kernel_rfl) ⟨_, rfl, ?_⟩
            obtain ⟨x784, hx784⟩ : ∃ z : Int, z = x573 + x775 := ⟨_, rfl⟩
            have hc785 := wadd_c x573 x775 w776 (by omega) (by omega) (by omega)
            rw [← hx784] at hc785
            refine EL_ret [.agg ((wof x573).map (Value.int .u64)).toArray, .agg ((wof x775).map (Value.int .u64)).toArray] rfl Try.func26 rfl nm26 rfl (hc785) ?_
            rintro _ w786 ⟨rfl, B787⟩
            have B788 : Below w.heap.size w w786 := below_full B778 B778.size B787
            have B789 : Below w553.heap.size w553 w786 := below_full B779 B779.size B787
            have B790 : Below w566.heap.size w566 w786 := below_full B780 B780.size B787
            have B791 : Below w575.heap.size w575 w786 := below_full B781 B781.size B787
            have B792 : Below w732.heap.size w732 w786 := below_full B782 B782.size B787
            have B793 : Below w764.heap.size w764 w786 := below_full B783 B783.size B787
            have B794 : Below w776.heap.size w776 w786 := B787
            refine EL_nil ?_
            refine ⟨rfl, .inr B790, ?_⟩
            refine EH_one 12 (by kernel_rfl) ⟨_, rfl, ?_⟩
            obtain ⟨x796, hx796⟩ : ∃ z : Int, z = x784 * R := ⟨_, rfl⟩
            have qx796 := mul_bd (B := 2722258935367507707706996859454145691647) (C := 21267647932558653966460912964485513215) (x := x784) (y := R) (by omega) (by omega)
            rw [← hx796] at qx796
            have hc795 := wtimes_c x784 R w786 (by omega) (by omega)
            rw [← hx796] at hc795
            obtain ⟨x797, hx797⟩ : ∃ z : Int, z = x796 % 1361129467683753853853498429727072845824 + 5 * (x796 / 1361129467683753853853498429727072845824) := ⟨_, rfl⟩
            rw [← hx797] at hc795
            refine EL_ret [.agg ((wof x784).map (Value.int .u64)).toArray, .agg ((wof R).map (Value.int .u64)).toArray] rfl Try.func27 rfl nm27 rfl (hc795) ?_
            rintro _ w798 ⟨rfl, B799⟩
            have B800 : Below w.heap.size w w798 := below_full B788 B788.size B799
            have B801 : Below w553.heap.size w553 w798 := below_full B789 B789.size B799
            have B802 : Below w566.heap.size w566 w798 := below_full B790 B790.size B799
            have B803 : Below w575.heap.size w575 w798 := below_full B791 B791.size B799
            have B804 : Below w732.heap.size w732 w798 := below_full B792 B792.size B799
            have B805 : Below w764.heap.size w764 w798 := below_full B793 B793.size B799
            have B806 : Below w776.heap.size w776 w798 := below_full B794 B794.size B799
            have B807 : Below w786.heap.size w786 w798 := B799
            refine EL_nil ?_
            refine ⟨rfl, .inr B802, ?_⟩
            refine EH_one 13 (by kernel_rfl) ⟨_, rfl, ?_⟩
            refine EL_storeAll (v := .agg ((wof x797).map (Value.int .u64)).toArray) (cs' := ((wof x797).map (Value.int .u64)).toArray) (by exact e559) rfl rfl (A563.below B801) (by first | rfl | (simp; done) | (simp; omega)) (Eq.trans (show _ = some 3 from by kernel_rfl) (congrArg some (by first | (simp; done) | (simp; omega) | rfl))) (ints_oneCell _ _) ?_
            intro w808 A809 K810 z811
            have A809' : Arr w808 b541 49 ((wof x797).map (Value.int .u64)) := by simpa using A809
            have B812 : Below w.heap.size w w808 := below_kept B800 K810 (Nat.le_trans B538.size (Nat.le_of_eq k543.symm)) (B800.size)
            have A813 : Arr w808 q6 49 ((wof R).map (Value.int .u64)) := (A561.below B801).grew K810 (by simp; omega)
            have A814 : Arr w808 q7 49 ((wof NS).map (Value.int .u64)) := (A562.below B801).grew K810 (by simp; omega)
            refine EL_nil ?_
            refine ⟨rfl, .inl (by kernel_rfl), ?_⟩
            refine EH_done (by kernel_rfl) ?_
            have hv3 : x797 % 1361129467683753853853498429727072845819 = (A % 1361129467683753853853498429727072845819 + num (tl.take 16 ++ [1])) * R % 1361129467683753853853498429727072845819 := by rw [← ex775, ← hx573, ← hx784, ← hx796]; omega
            refine thn_n ?_
            exact ⟨x797, (by exact e554), (by exact e555), (by exact e556), (by exact e557), (by exact e558), (by exact e559), rfl, by omega, hv3, B812, A813, A814, A809'⟩
        · refine EL_lit w566.heap.size #[] elB rfl (by decide) rfl (Nat.le_refl _) (by kernel_rfl) ?_
          intro v815 w816 O817 B818 k819 z820
          have B821 : Below w.heap.size w w816 := below_full B569 B569.size B818
          have B822 : Below w553.heap.size w553 w816 := below_full B570 B570.size B818
          have B823 : Below w566.heap.size w566 w816 := B818
          have O817' := own_eq (l := ([] : List UInt8)) O817 (by simp [bof_val, byt])
          refine EL_nil ?_
          refine ⟨rfl, .inr B823, ?_⟩
          refine EH_two 1 7 (by kernel_rfl) ⟨_, rfl, ?_⟩ ⟨_, rfl, ?_⟩
          · obtain ⟨x824, hx824⟩ : ∃ z : Int, z = A % 1361129467683753853853498429727072845819 := ⟨_, rfl⟩
            have hc825 := wleast_c A w816 (by omega)
            rw [← hx824] at hc825
            refine EL_ret [.agg ((wof A).map (Value.int .u64)).toArray] rfl Try.func25 rfl nm25 rfl (hc825) ?_
            rintro _ w826 ⟨rfl, B827⟩
            have B828 : Below w.heap.size w w826 := below_full B821 B821.size B827
            have B829 : Below w553.heap.size w553 w826 := below_full B822 B822.size B827
            have B830 : Below w566.heap.size w566 w826 := below_full B823 B823.size B827
            have B831 : Below w816.heap.size w816 w826 := B827
            refine EL_nil ?_
            refine ⟨rfl, .inr B830, ?_⟩
            refine EH_two 6 7 (by kernel_rfl) ⟨_, rfl, ?_⟩ ⟨_, rfl, ?_⟩
            · refine EL_append (v := v815) (xs := ([] : List UInt8).map byt) (ys := (tl.take ((x565 : Int).toNat)).map byt) w566.heap.size elB rfl rfl rfl (by simpa using (own_below O817' B831)) (R571.below B828) (byt_one _) (by first | (simp only [List.length_map, List.length_nil]; omega) | (simp; done) | (simp; omega)) (by decide) B830.size ?_
              intro v832 w833 O834 G835 A836
              have O834' := own_app O834
              have B837 : Below w.heap.size w w833 := below_grew B828 G835 (own_below O817' B831) B569.size (B828.size)
              have B838 : Below w553.heap.size w553 w833 := below_grew B829 G835 (own_below O817' B831) B570.size (B829.size)
              have B839 : Below w566.heap.size w566 w833 := below_grew B830 G835 (own_below O817' B831) (Nat.le_refl _) (B830.size)
              refine EL_nil ?_
              refine ⟨rfl, .inr B839, ?_⟩
              refine EH_one 7 (by kernel_rfl) ⟨_, rfl, ?_⟩
              refine EL_lit w833.heap.size #[.int .u8 1] elB rfl (by decide) rfl (Nat.le_refl _) (by kernel_rfl) ?_
              intro v842 w843 O844 B845 k846 z847
              have B848 : Below w.heap.size w w843 := below_full B837 B837.size B845
              have B849 : Below w553.heap.size w553 w843 := below_full B838 B838.size B845
              have B850 : Below w566.heap.size w566 w843 := below_full B839 B839.size B845
              have B851 : Below w833.heap.size w833 w843 := B845
              have O844' := own_eq (l := [(1 : UInt8)]) O844 (by simp [bof_val, byt])
              refine EL_nil ?_
              refine ⟨rfl, .inr B850, ?_⟩
              refine EH_one 8 (by kernel_rfl) ⟨_, rfl, ?_⟩
              refine EL_append (v := v832) (xs := (([] : List UInt8) ++ (tl.take ((x565 : Int).toNat))).map byt) (ys := [(1 : UInt8)].map byt) w566.heap.size elB rfl rfl rfl (by simpa using (own_below O834' B851)) (own_row O844') (byt_one _) (by first | (simp only [List.length_map, List.length_nil]; omega) | (simp; done) | (simp; omega)) (by decide) B850.size ?_
              intro v852 w853 O854 G855 A856
              have O854' := own_app O854
              have B857 : Below w.heap.size w w853 := below_grew B848 G855 (own_below O834' B851) B569.size (B848.size)
              have B858 : Below w553.heap.size w553 w853 := below_grew B849 G855 (own_below O834' B851) B570.size (B849.size)
              have B859 : Below w566.heap.size w566 w853 := below_grew B850 G855 (own_below O834' B851) (Nat.le_refl _) (B850.size)
              refine EL_nil ?_
              refine ⟨rfl, .inr B859, ?_⟩
              refine EH_one 9 (by kernel_rfl) ⟨_, rfl, ?_⟩
              obtain ⟨x863, hx863⟩ : ∃ z : Int, z = num ((([] : List UInt8) ++ (tl.take ((x565 : Int).toNat))) ++ [(1 : UInt8)]) := ⟨_, rfl⟩
              have ex863 : x863 = num (tl.take 16 ++ [1]) := by rw [hx863, ← min_take hx565]; simp
              have bx863 := num_bd17 (b := tl.take 16) (by simp; omega)
              have nx863 := num_bd (tl.take 16 ++ [1])
              have hc862 := pget_c v852 ((([] : List UInt8) ++ (tl.take ((x565 : Int).toNat))) ++ [(1 : UInt8)]) w853 (own_row O854') (by simp; omega)
              rw [← hx863] at hc862
              refine EL_ret [v852] rfl Try.func24 rfl nm24 rfl (hc862) ?_
              rintro _ w864 ⟨rfl, B865⟩
              have B866 : Below w.heap.size w w864 := below_full B857 B857.size B865
              have B867 : Below w553.heap.size w553 w864 := below_full B858 B858.size B865
              have B868 : Below w566.heap.size w566 w864 := below_full B859 B859.size B865
              have B869 : Below w853.heap.size w853 w864 := B865
              refine EL_nil ?_
              refine ⟨rfl, .inr B868, ?_⟩
              refine EH_one 10 (by kernel_rfl) ⟨_, rfl, ?_⟩
              obtain ⟨x870, hx870⟩ : ∃ z : Int, z = x824 + x863 := ⟨_, rfl⟩
              have hc871 := wadd_c x824 x863 w864 (by omega) (by omega) (by omega)
              rw [← hx870] at hc871
              refine EL_ret [.agg ((wof x824).map (Value.int .u64)).toArray, .agg ((wof x863).map (Value.int .u64)).toArray] rfl Try.func26 rfl nm26 rfl (hc871) ?_
              rintro _ w872 ⟨rfl, B873⟩
              have B874 : Below w.heap.size w w872 := below_full B866 B866.size B873
              have B875 : Below w553.heap.size w553 w872 := below_full B867 B867.size B873
              have B876 : Below w566.heap.size w566 w872 := below_full B868 B868.size B873
              have B877 : Below w853.heap.size w853 w872 := below_full B869 B869.size B873
              have B878 : Below w864.heap.size w864 w872 := B873
              refine EL_nil ?_
              refine ⟨rfl, .inr B876, ?_⟩
              refine EH_one 12 (by kernel_rfl) ⟨_, rfl, ?_⟩
              obtain ⟨x880, hx880⟩ : ∃ z : Int, z = x870 * R := ⟨_, rfl⟩
              have qx880 := mul_bd (B := 2722258935367507707706996859454145691647) (C := 21267647932558653966460912964485513215) (x := x870) (y := R) (by omega) (by omega)
              rw [← hx880] at qx880
              have hc879 := wtimes_c x870 R w872 (by omega) (by omega)
              rw [← hx880] at hc879
              obtain ⟨x881, hx881⟩ : ∃ z : Int, z = x880 % 1361129467683753853853498429727072845824 + 5 * (x880 / 1361129467683753853853498429727072845824) := ⟨_, rfl⟩
              rw [← hx881] at hc879
              refine EL_ret [.agg ((wof x870).map (Value.int .u64)).toArray, .agg ((wof R).map (Value.int .u64)).toArray] rfl Try.func27 rfl nm27 rfl (hc879) ?_
              rintro _ w882 ⟨rfl, B883⟩
              have B884 : Below w.heap.size w w882 := below_full B874 B874.size B883
              have B885 : Below w553.heap.size w553 w882 := below_full B875 B875.size B883
              have B886 : Below w566.heap.size w566 w882 := below_full B876 B876.size B883
              have B887 : Below w853.heap.size w853 w882 := below_full B877 B877.size B883
              have B888 : Below w864.heap.size w864 w882 := below_full B878 B878.size B883
              have B889 : Below w872.heap.size w872 w882 := B883
              refine EL_nil ?_
              refine ⟨rfl, .inr B886, ?_⟩
              refine EH_one 13 (by kernel_rfl) ⟨_, rfl, ?_⟩
              refine EL_storeAll (v := .agg ((wof x881).map (Value.int .u64)).toArray) (cs' := ((wof x881).map (Value.int .u64)).toArray) (by exact e559) rfl rfl (A563.below B885) (by first | rfl | (simp; done) | (simp; omega)) (Eq.trans (show _ = some 3 from by kernel_rfl) (congrArg some (by first | (simp; done) | (simp; omega) | rfl))) (ints_oneCell _ _) ?_
              intro w890 A891 K892 z893
              have A891' : Arr w890 b541 49 ((wof x881).map (Value.int .u64)) := by simpa using A891
              have B894 : Below w.heap.size w w890 := below_kept B884 K892 (Nat.le_trans B538.size (Nat.le_of_eq k543.symm)) (B884.size)
              have A895 : Arr w890 q6 49 ((wof R).map (Value.int .u64)) := (A561.below B885).grew K892 (by simp; omega)
              have A896 : Arr w890 q7 49 ((wof NS).map (Value.int .u64)) := (A562.below B885).grew K892 (by simp; omega)
              refine EL_nil ?_
              refine ⟨rfl, .inl (by kernel_rfl), ?_⟩
              refine EH_done (by kernel_rfl) ?_
              have hv3 : x881 % 1361129467683753853853498429727072845819 = (A % 1361129467683753853853498429727072845819 + num (tl.take 16 ++ [1])) * R % 1361129467683753853853498429727072845819 := by rw [← ex863, ← hx824, ← hx870, ← hx880]; omega
              refine thn_n ?_
              exact ⟨x881, (by exact e554), (by exact e555), (by exact e556), (by exact e557), (by exact e558), (by exact e559), rfl, by omega, hv3, B894, A895, A896, A891'⟩
            · refine EL_lit w826.heap.size #[.int .u8 1] elB rfl (by decide) rfl (Nat.le_refl _) (by kernel_rfl) ?_
              intro v897 w898 O899 B900 k901 z902
              have B903 : Below w.heap.size w w898 := below_full B828 B828.size B900
              have B904 : Below w553.heap.size w553 w898 := below_full B829 B829.size B900
              have B905 : Below w566.heap.size w566 w898 := below_full B830 B830.size B900
              have B906 : Below w816.heap.size w816 w898 := below_full B831 B831.size B900
              have B907 : Below w826.heap.size w826 w898 := B900
              have O899' := own_eq (l := [(1 : UInt8)]) O899 (by simp [bof_val, byt])
              refine EL_nil ?_
              refine ⟨rfl, .inr B905, ?_⟩
              refine EH_one 6 (by kernel_rfl) ⟨_, rfl, ?_⟩
              refine EL_append (v := v815) (xs := ([] : List UInt8).map byt) (ys := (tl.take ((x565 : Int).toNat)).map byt) w566.heap.size elB rfl rfl rfl (by simpa using (own_below O817' B906)) (R571.below B903) (byt_one _) (by first | (simp only [List.length_map, List.length_nil]; omega) | (simp; done) | (simp; omega)) (by decide) B905.size ?_
              intro v908 w909 O910 G911 A912
              have O910' := own_app O910
              have B913 : Below w.heap.size w w909 := below_grew B903 G911 (own_below O817' B906) B569.size (B903.size)
              have B914 : Below w553.heap.size w553 w909 := below_grew B904 G911 (own_below O817' B906) B570.size (B904.size)
              have B915 : Below w566.heap.size w566 w909 := below_grew B905 G911 (own_below O817' B906) (Nat.le_refl _) (B905.size)
              have F919 := own_far O899' G911 (fun g hg => Nat.lt_of_lt_of_le ((own_lt O817') g hg) B831.size)
              refine EL_nil ?_
              refine ⟨rfl, .inr B915, ?_⟩
              refine EH_one 8 (by kernel_rfl) ⟨_, rfl, ?_⟩
              refine EL_append (v := v908) (xs := (([] : List UInt8) ++ (tl.take ((x565 : Int).toNat))).map byt) (ys := [(1 : UInt8)].map byt) w566.heap.size elB rfl rfl rfl (by simpa using O910') (own_row F919) (byt_one _) (by first | (simp only [List.length_map, List.length_nil]; omega) | (simp; done) | (simp; omega)) (by decide) B915.size ?_
              intro v920 w921 O922 G923 A924
              have O922' := own_app O922
              have B925 : Below w.heap.size w w921 := below_grew B913 G923 O910' B569.size (B913.size)
              have B926 : Below w553.heap.size w553 w921 := below_grew B914 G923 O910' B570.size (B914.size)
              have B927 : Below w566.heap.size w566 w921 := below_grew B915 G923 O910' (Nat.le_refl _) (B915.size)
              refine EL_nil ?_
              refine ⟨rfl, .inr B927, ?_⟩
              refine EH_one 9 (by kernel_rfl) ⟨_, rfl, ?_⟩
              obtain ⟨x930, hx930⟩ : ∃ z : Int, z = num ((([] : List UInt8) ++ (tl.take ((x565 : Int).toNat))) ++ [(1 : UInt8)]) := ⟨_, rfl⟩
              have ex930 : x930 = num (tl.take 16 ++ [1]) := by rw [hx930, ← min_take hx565]; simp
              have bx930 := num_bd17 (b := tl.take 16) (by simp; omega)
              have nx930 := num_bd (tl.take 16 ++ [1])
              have hc929 := pget_c v920 ((([] : List UInt8) ++ (tl.take ((x565 : Int).toNat))) ++ [(1 : UInt8)]) w921 (own_row O922') (by simp; omega)
              rw [← hx930] at hc929
              refine EL_ret [v920] rfl Try.func24 rfl nm24 rfl (hc929) ?_
              rintro _ w931 ⟨rfl, B932⟩
              have B933 : Below w.heap.size w w931 := below_full B925 B925.size B932
              have B934 : Below w553.heap.size w553 w931 := below_full B926 B926.size B932
              have B935 : Below w566.heap.size w566 w931 := below_full B927 B927.size B932
              have B936 : Below w921.heap.size w921 w931 := B932
              refine EL_nil ?_
              refine ⟨rfl, .inr B935, ?_⟩
              refine EH_one 10 (by kernel_rfl) ⟨_, rfl, ?_⟩
              obtain ⟨x937, hx937⟩ : ∃ z : Int, z = x824 + x930 := ⟨_, rfl⟩
              have hc938 := wadd_c x824 x930 w931 (by omega) (by omega) (by omega)
              rw [← hx937] at hc938
              refine EL_ret [.agg ((wof x824).map (Value.int .u64)).toArray, .agg ((wof x930).map (Value.int .u64)).toArray] rfl Try.func26 rfl nm26 rfl (hc938) ?_
              rintro _ w939 ⟨rfl, B940⟩
              have B941 : Below w.heap.size w w939 := below_full B933 B933.size B940
              have B942 : Below w553.heap.size w553 w939 := below_full B934 B934.size B940
              have B943 : Below w566.heap.size w566 w939 := below_full B935 B935.size B940
              have B944 : Below w921.heap.size w921 w939 := below_full B936 B936.size B940
              have B945 : Below w931.heap.size w931 w939 := B940
              refine EL_nil ?_
              refine ⟨rfl, .inr B943, ?_⟩
              refine EH_one 12 (by kernel_rfl) ⟨_, rfl, ?_⟩
              obtain ⟨x947, hx947⟩ : ∃ z : Int, z = x937 * R := ⟨_, rfl⟩
              have qx947 := mul_bd (B := 2722258935367507707706996859454145691647) (C := 21267647932558653966460912964485513215) (x := x937) (y := R) (by omega) (by omega)
              rw [← hx947] at qx947
              have hc946 := wtimes_c x937 R w939 (by omega) (by omega)
              rw [← hx947] at hc946
              obtain ⟨x948, hx948⟩ : ∃ z : Int, z = x947 % 1361129467683753853853498429727072845824 + 5 * (x947 / 1361129467683753853853498429727072845824) := ⟨_, rfl⟩
              rw [← hx948] at hc946
              refine EL_ret [.agg ((wof x937).map (Value.int .u64)).toArray, .agg ((wof R).map (Value.int .u64)).toArray] rfl Try.func27 rfl nm27 rfl (hc946) ?_
              rintro _ w949 ⟨rfl, B950⟩
              have B951 : Below w.heap.size w w949 := below_full B941 B941.size B950
              have B952 : Below w553.heap.size w553 w949 := below_full B942 B942.size B950
              have B953 : Below w566.heap.size w566 w949 := below_full B943 B943.size B950
              have B954 : Below w921.heap.size w921 w949 := below_full B944 B944.size B950
              have B955 : Below w931.heap.size w931 w949 := below_full B945 B945.size B950
              have B956 : Below w939.heap.size w939 w949 := B950
              refine EL_nil ?_
              refine ⟨rfl, .inr B953, ?_⟩
              refine EH_one 13 (by kernel_rfl) ⟨_, rfl, ?_⟩
              refine EL_storeAll (v := .agg ((wof x948).map (Value.int .u64)).toArray) (cs' := ((wof x948).map (Value.int .u64)).toArray) (by exact e559) rfl rfl (A563.below B952) (by first | rfl | (simp; done) | (simp; omega)) (Eq.trans (show _ = some 3 from by kernel_rfl) (congrArg some (by first | (simp; done) | (simp; omega) | rfl))) (ints_oneCell _ _) ?_
              intro w957 A958 K959 z960
              have A958' : Arr w957 b541 49 ((wof x948).map (Value.int .u64)) := by simpa using A958
              have B961 : Below w.heap.size w w957 := below_kept B951 K959 (Nat.le_trans B538.size (Nat.le_of_eq k543.symm)) (B951.size)
              have A962 : Arr w957 q6 49 ((wof R).map (Value.int .u64)) := (A561.below B952).grew K959 (by simp; omega)
              have A963 : Arr w957 q7 49 ((wof NS).map (Value.int .u64)) := (A562.below B952).grew K959 (by simp; omega)
              refine EL_nil ?_
              refine ⟨rfl, .inl (by kernel_rfl), ?_⟩
              refine EH_done (by kernel_rfl) ?_
              have hv3 : x948 % 1361129467683753853853498429727072845819 = (A % 1361129467683753853853498429727072845819 + num (tl.take 16 ++ [1])) * R % 1361129467683753853853498429727072845819 := by rw [← ex930, ← hx824, ← hx937, ← hx947]; omega
              refine thn_n ?_
              exact ⟨x948, (by exact e554), (by exact e555), (by exact e556), (by exact e557), (by exact e558), (by exact e559), rfl, by omega, hv3, B961, A962, A963, A958'⟩
          · refine EL_lit w816.heap.size #[.int .u8 1] elB rfl (by decide) rfl (Nat.le_refl _) (by kernel_rfl) ?_
            intro v964 w965 O966 B967 k968 z969
            have B970 : Below w.heap.size w w965 := below_full B821 B821.size B967
            have B971 : Below w553.heap.size w553 w965 := below_full B822 B822.size B967
            have B972 : Below w566.heap.size w566 w965 := below_full B823 B823.size B967
            have B973 : Below w816.heap.size w816 w965 := B967
            have O966' := own_eq (l := [(1 : UInt8)]) O966 (by simp [bof_val, byt])
            refine EL_nil ?_
            refine ⟨rfl, .inr B972, ?_⟩
            refine EH_one 1 (by kernel_rfl) ⟨_, rfl, ?_⟩
            obtain ⟨x974, hx974⟩ : ∃ z : Int, z = A % 1361129467683753853853498429727072845819 := ⟨_, rfl⟩
            have hc975 := wleast_c A w965 (by omega)
            rw [← hx974] at hc975
            refine EL_ret [.agg ((wof A).map (Value.int .u64)).toArray] rfl Try.func25 rfl nm25 rfl (hc975) ?_
            rintro _ w976 ⟨rfl, B977⟩
            have B978 : Below w.heap.size w w976 := below_full B970 B970.size B977
            have B979 : Below w553.heap.size w553 w976 := below_full B971 B971.size B977
            have B980 : Below w566.heap.size w566 w976 := below_full B972 B972.size B977
            have B981 : Below w816.heap.size w816 w976 := below_full B973 B973.size B977
            have B982 : Below w965.heap.size w965 w976 := B977
            refine EL_nil ?_
            refine ⟨rfl, .inr B980, ?_⟩
            refine EH_one 6 (by kernel_rfl) ⟨_, rfl, ?_⟩
            refine EL_append (v := v815) (xs := ([] : List UInt8).map byt) (ys := (tl.take ((x565 : Int).toNat)).map byt) w566.heap.size elB rfl rfl rfl (by simpa using (own_below O817' B981)) (R571.below B978) (byt_one _) (by first | (simp only [List.length_map, List.length_nil]; omega) | (simp; done) | (simp; omega)) (by decide) B980.size ?_
            intro v983 w984 O985 G986 A987
            have O985' := own_app O985
            have B988 : Below w.heap.size w w984 := below_grew B978 G986 (own_below O817' B981) B569.size (B978.size)
            have B989 : Below w553.heap.size w553 w984 := below_grew B979 G986 (own_below O817' B981) B570.size (B979.size)
            have B990 : Below w566.heap.size w566 w984 := below_grew B980 G986 (own_below O817' B981) (Nat.le_refl _) (B980.size)
            have F994 := own_far (own_below O966' B982) G986 (fun g hg => Nat.lt_of_lt_of_le ((own_lt O817') g hg) (Nat.le_refl _))
            refine EL_nil ?_
            refine ⟨rfl, .inr B990, ?_⟩
            refine EH_one 8 (by kernel_rfl) ⟨_, rfl, ?_⟩
            refine EL_append (v := v983) (xs := (([] : List UInt8) ++ (tl.take ((x565 : Int).toNat))).map byt) (ys := [(1 : UInt8)].map byt) w566.heap.size elB rfl rfl rfl (by simpa using O985') (own_row F994) (byt_one _) (by first | (simp only [List.length_map, List.length_nil]; omega) | (simp; done) | (simp; omega)) (by decide) B990.size ?_
            intro v995 w996 O997 G998 A999
            have O997' := own_app O997
            have B1000 : Below w.heap.size w w996 := below_grew B988 G998 O985' B569.size (B988.size)
            have B1001 : Below w553.heap.size w553 w996 := below_grew B989 G998 O985' B570.size (B989.size)
            have B1002 : Below w566.heap.size w566 w996 := below_grew B990 G998 O985' (Nat.le_refl _) (B990.size)
            refine EL_nil ?_
            refine ⟨rfl, .inr B1002, ?_⟩
            refine EH_one 9 (by kernel_rfl) ⟨_, rfl, ?_⟩
            obtain ⟨x1005, hx1005⟩ : ∃ z : Int, z = num ((([] : List UInt8) ++ (tl.take ((x565 : Int).toNat))) ++ [(1 : UInt8)]) := ⟨_, rfl⟩
            have ex1005 : x1005 = num (tl.take 16 ++ [1]) := by rw [hx1005, ← min_take hx565]; simp
            have bx1005 := num_bd17 (b := tl.take 16) (by simp; omega)
            have nx1005 := num_bd (tl.take 16 ++ [1])
            have hc1004 := pget_c v995 ((([] : List UInt8) ++ (tl.take ((x565 : Int).toNat))) ++ [(1 : UInt8)]) w996 (own_row O997') (by simp; omega)
            rw [← hx1005] at hc1004
            refine EL_ret [v995] rfl Try.func24 rfl nm24 rfl (hc1004) ?_
            rintro _ w1006 ⟨rfl, B1007⟩
            have B1008 : Below w.heap.size w w1006 := below_full B1000 B1000.size B1007
            have B1009 : Below w553.heap.size w553 w1006 := below_full B1001 B1001.size B1007
            have B1010 : Below w566.heap.size w566 w1006 := below_full B1002 B1002.size B1007
            have B1011 : Below w996.heap.size w996 w1006 := B1007
            refine EL_nil ?_
            refine ⟨rfl, .inr B1010, ?_⟩
            refine EH_one 10 (by kernel_rfl) ⟨_, rfl, ?_⟩
            obtain ⟨x1012, hx1012⟩ : ∃ z : Int, z = x974 + x1005 := ⟨_, rfl⟩
            have hc1013 := wadd_c x974 x1005 w1006 (by omega) (by omega) (by omega)
            rw [← hx1012] at hc1013
            refine EL_ret [.agg ((wof x974).map (Value.int .u64)).toArray, .agg ((wof x1005).map (Value.int .u64)).toArray] rfl Try.func26 rfl nm26 rfl (hc1013) ?_
            rintro _ w1014 ⟨rfl, B1015⟩
            have B1016 : Below w.heap.size w w1014 := below_full B1008 B1008.size B1015
            have B1017 : Below w553.heap.size w553 w1014 := below_full B1009 B1009.size B1015
            have B1018 : Below w566.heap.size w566 w1014 := below_full B1010 B1010.size B1015
            have B1019 : Below w996.heap.size w996 w1014 := below_full B1011 B1011.size B1015
            have B1020 : Below w1006.heap.size w1006 w1014 := B1015
            refine EL_nil ?_
            refine ⟨rfl, .inr B1018, ?_⟩
            refine EH_one 12 (by kernel_rfl) ⟨_, rfl, ?_⟩
            obtain ⟨x1022, hx1022⟩ : ∃ z : Int, z = x1012 * R := ⟨_, rfl⟩
            have qx1022 := mul_bd (B := 2722258935367507707706996859454145691647) (C := 21267647932558653966460912964485513215) (x := x1012) (y := R) (by omega) (by omega)
            rw [← hx1022] at qx1022
            have hc1021 := wtimes_c x1012 R w1014 (by omega) (by omega)
            rw [← hx1022] at hc1021
            obtain ⟨x1023, hx1023⟩ : ∃ z : Int, z = x1022 % 1361129467683753853853498429727072845824 + 5 * (x1022 / 1361129467683753853853498429727072845824) := ⟨_, rfl⟩
            rw [← hx1023] at hc1021
            refine EL_ret [.agg ((wof x1012).map (Value.int .u64)).toArray, .agg ((wof R).map (Value.int .u64)).toArray] rfl Try.func27 rfl nm27 rfl (hc1021) ?_
            rintro _ w1024 ⟨rfl, B1025⟩
            have B1026 : Below w.heap.size w w1024 := below_full B1016 B1016.size B1025
            have B1027 : Below w553.heap.size w553 w1024 := below_full B1017 B1017.size B1025
            have B1028 : Below w566.heap.size w566 w1024 := below_full B1018 B1018.size B1025
            have B1029 : Below w996.heap.size w996 w1024 := below_full B1019 B1019.size B1025
            have B1030 : Below w1006.heap.size w1006 w1024 := below_full B1020 B1020.size B1025
            have B1031 : Below w1014.heap.size w1014 w1024 := B1025
            refine EL_nil ?_
            refine ⟨rfl, .inr B1028, ?_⟩
            refine EH_one 13 (by kernel_rfl) ⟨_, rfl, ?_⟩
            refine EL_storeAll (v := .agg ((wof x1023).map (Value.int .u64)).toArray) (cs' := ((wof x1023).map (Value.int .u64)).toArray) (by exact e559) rfl rfl (A563.below B1027) (by first | rfl | (simp; done) | (simp; omega)) (Eq.trans (show _ = some 3 from by kernel_rfl) (congrArg some (by first | (simp; done) | (simp; omega) | rfl))) (ints_oneCell _ _) ?_
            intro w1032 A1033 K1034 z1035
            have A1033' : Arr w1032 b541 49 ((wof x1023).map (Value.int .u64)) := by simpa using A1033
            have B1036 : Below w.heap.size w w1032 := below_kept B1026 K1034 (Nat.le_trans B538.size (Nat.le_of_eq k543.symm)) (B1026.size)
            have A1037 : Arr w1032 q6 49 ((wof R).map (Value.int .u64)) := (A561.below B1027).grew K1034 (by simp; omega)
            have A1038 : Arr w1032 q7 49 ((wof NS).map (Value.int .u64)) := (A562.below B1027).grew K1034 (by simp; omega)
            refine EL_nil ?_
            refine ⟨rfl, .inl (by kernel_rfl), ?_⟩
            refine EH_done (by kernel_rfl) ?_
            have hv3 : x1023 % 1361129467683753853853498429727072845819 = (A % 1361129467683753853853498429727072845819 + num (tl.take 16 ++ [1])) * R % 1361129467683753853853498429727072845819 := by rw [← ex1005, ← hx974, ← hx1012, ← hx1022]; omega
            refine thn_n ?_
            exact ⟨x1023, (by exact e554), (by exact e555), (by exact e556), (by exact e557), (by exact e558), (by exact e559), rfl, by omega, hv3, B1036, A1037, A1038, A1033'⟩
        · refine EL_lit w566.heap.size #[.int .u8 1] elB rfl (by decide) rfl (Nat.le_refl _) (by kernel_rfl) ?_
          intro v1039 w1040 O1041 B1042 k1043 z1044
          have B1045 : Below w.heap.size w w1040 := below_full B569 B569.size B1042
          have B1046 : Below w553.heap.size w553 w1040 := below_full B570 B570.size B1042
          have B1047 : Below w566.heap.size w566 w1040 := B1042
          have O1041' := own_eq (l := [(1 : UInt8)]) O1041 (by simp [bof_val, byt])
          refine EL_nil ?_
          refine ⟨rfl, .inr B1047, ?_⟩
          refine EH_two 1 2 (by kernel_rfl) ⟨_, rfl, ?_⟩ ⟨_, rfl, ?_⟩
          · obtain ⟨x1048, hx1048⟩ : ∃ z : Int, z = A % 1361129467683753853853498429727072845819 := ⟨_, rfl⟩
            have hc1049 := wleast_c A w1040 (by omega)
            rw [← hx1048] at hc1049
            refine EL_ret [.agg ((wof A).map (Value.int .u64)).toArray] rfl Try.func25 rfl nm25 rfl (hc1049) ?_
            rintro _ w1050 ⟨rfl, B1051⟩
            have B1052 : Below w.heap.size w w1050 := below_full B1045 B1045.size B1051
            have B1053 : Below w553.heap.size w553 w1050 := below_full B1046 B1046.size B1051
            have B1054 : Below w566.heap.size w566 w1050 := below_full B1047 B1047.size B1051
            have B1055 : Below w1040.heap.size w1040 w1050 := B1051
            refine EL_nil ?_
            refine ⟨rfl, .inr B1054, ?_⟩
            refine EH_one 2 (by kernel_rfl) ⟨_, rfl, ?_⟩
            refine EL_lit w1050.heap.size #[] elB rfl (by decide) rfl (Nat.le_refl _) (by kernel_rfl) ?_
            intro v1056 w1057 O1058 B1059 k1060 z1061
            have B1062 : Below w.heap.size w w1057 := below_full B1052 B1052.size B1059
            have B1063 : Below w553.heap.size w553 w1057 := below_full B1053 B1053.size B1059
            have B1064 : Below w566.heap.size w566 w1057 := below_full B1054 B1054.size B1059
            have B1065 : Below w1040.heap.size w1040 w1057 := below_full B1055 B1055.size B1059
            have B1066 : Below w1050.heap.size w1050 w1057 := B1059
            have O1058' := own_eq (l := ([] : List UInt8)) O1058 (by simp [bof_val, byt])
            refine EL_nil ?_
            refine ⟨rfl, .inr B1064, ?_⟩
            refine EH_one 6 (by kernel_rfl) ⟨_, rfl, ?_⟩
            refine EL_append (v := v1056) (xs := ([] : List UInt8).map byt) (ys := (tl.take ((x565 : Int).toNat)).map byt) w1050.heap.size elB rfl rfl rfl (by simpa using O1058') (R571.below B1062) (byt_one _) (by first | (simp only [List.length_map, List.length_nil]; omega) | (simp; done) | (simp; omega)) (by decide) B1066.size ?_
            intro v1067 w1068 O1069 G1070 A1071
            have O1069' := own_app O1069
            have B1072 : Below w.heap.size w w1068 := below_grew B1062 G1070 O1058' B1052.size (B1062.size)
            have B1073 : Below w553.heap.size w553 w1068 := below_grew B1063 G1070 O1058' B1053.size (B1063.size)
            have B1074 : Below w566.heap.size w566 w1068 := below_grew B1064 G1070 O1058' B1054.size (B1064.size)
            have B1075 : Below w1040.heap.size w1040 w1068 := below_grew B1065 G1070 O1058' B1055.size (B1065.size)
            have B1076 : Below w1050.heap.size w1050 w1068 := below_grew B1066 G1070 O1058' (Nat.le_refl _) (B1066.size)
            refine EL_nil ?_
            refine ⟨rfl, .inr B1074, ?_⟩
            refine EH_one 8 (by kernel_rfl) ⟨_, rfl, ?_⟩
            refine EL_append (v := v1067) (xs := (([] : List UInt8) ++ (tl.take ((x565 : Int).toNat))).map byt) (ys := [(1 : UInt8)].map byt) w1050.heap.size elB rfl rfl rfl (by simpa using O1069') ((own_row O1041').below B1075) (byt_one _) (by first | (simp only [List.length_map, List.length_nil]; omega) | (simp; done) | (simp; omega)) (by decide) B1076.size ?_
            intro v1078 w1079 O1080 G1081 A1082
            have O1080' := own_app O1080
            have B1083 : Below w.heap.size w w1079 := below_grew B1072 G1081 O1069' B1052.size (B1072.size)
            have B1084 : Below w553.heap.size w553 w1079 := below_grew B1073 G1081 O1069' B1053.size (B1073.size)
            have B1085 : Below w566.heap.size w566 w1079 := below_grew B1074 G1081 O1069' B1054.size (B1074.size)
            have B1086 : Below w1040.heap.size w1040 w1079 := below_grew B1075 G1081 O1069' B1055.size (B1075.size)
            have B1087 : Below w1050.heap.size w1050 w1079 := below_grew B1076 G1081 O1069' (Nat.le_refl _) (B1076.size)
            refine EL_nil ?_
            refine ⟨rfl, .inr B1085, ?_⟩
            refine EH_one 9 (by kernel_rfl) ⟨_, rfl, ?_⟩
            obtain ⟨x1090, hx1090⟩ : ∃ z : Int, z = num ((([] : List UInt8) ++ (tl.take ((x565 : Int).toNat))) ++ [(1 : UInt8)]) := ⟨_, rfl⟩
            have ex1090 : x1090 = num (tl.take 16 ++ [1]) := by rw [hx1090, ← min_take hx565]; simp
            have bx1090 := num_bd17 (b := tl.take 16) (by simp; omega)
            have nx1090 := num_bd (tl.take 16 ++ [1])
            have hc1089 := pget_c v1078 ((([] : List UInt8) ++ (tl.take ((x565 : Int).toNat))) ++ [(1 : UInt8)]) w1079 (own_row O1080') (by simp; omega)
            rw [← hx1090] at hc1089
            refine EL_ret [v1078] rfl Try.func24 rfl nm24 rfl (hc1089) ?_
            rintro _ w1091 ⟨rfl, B1092⟩
            have B1093 : Below w.heap.size w w1091 := below_full B1083 B1083.size B1092
            have B1094 : Below w553.heap.size w553 w1091 := below_full B1084 B1084.size B1092
            have B1095 : Below w566.heap.size w566 w1091 := below_full B1085 B1085.size B1092
            have B1096 : Below w1040.heap.size w1040 w1091 := below_full B1086 B1086.size B1092
            have B1097 : Below w1050.heap.size w1050 w1091 := below_full B1087 B1087.size B1092
            have B1098 : Below w1079.heap.size w1079 w1091 := B1092
            refine EL_nil ?_
            refine ⟨rfl, .inr B1095, ?_⟩
            refine EH_one 10 (by kernel_rfl) ⟨_, rfl, ?_⟩
            obtain ⟨x1099, hx1099⟩ : ∃ z : Int, z = x1048 + x1090 := ⟨_, rfl⟩
            have hc1100 := wadd_c x1048 x1090 w1091 (by omega) (by omega) (by omega)
            rw [← hx1099] at hc1100
            refine EL_ret [.agg ((wof x1048).map (Value.int .u64)).toArray, .agg ((wof x1090).map (Value.int .u64)).toArray] rfl Try.func26 rfl nm26 rfl (hc1100) ?_
            rintro _ w1101 ⟨rfl, B1102⟩
            have B1103 : Below w.heap.size w w1101 := below_full B1093 B1093.size B1102
            have B1104 : Below w553.heap.size w553 w1101 := below_full B1094 B1094.size B1102
            have B1105 : Below w566.heap.size w566 w1101 := below_full B1095 B1095.size B1102
            have B1106 : Below w1040.heap.size w1040 w1101 := below_full B1096 B1096.size B1102
            have B1107 : Below w1050.heap.size w1050 w1101 := below_full B1097 B1097.size B1102
            have B1108 : Below w1079.heap.size w1079 w1101 := below_full B1098 B1098.size B1102
            have B1109 : Below w1091.heap.size w1091 w1101 := B1102
            refine EL_nil ?_
            refine ⟨rfl, .inr B1105, ?_⟩
            refine EH_one 12 (by kernel_rfl) ⟨_, rfl, ?_⟩
            obtain ⟨x1111, hx1111⟩ : ∃ z : Int, z = x1099 * R := ⟨_, rfl⟩
            have qx1111 := mul_bd (B := 2722258935367507707706996859454145691647) (C := 21267647932558653966460912964485513215) (x := x1099) (y := R) (by omega) (by omega)
            rw [← hx1111] at qx1111
            have hc1110 := wtimes_c x1099 R w1101 (by omega) (by omega)
            rw [← hx1111] at hc1110
            obtain ⟨x1112, hx1112⟩ : ∃ z : Int, z = x1111 % 1361129467683753853853498429727072845824 + 5 * (x1111 / 1361129467683753853853498429727072845824) := ⟨_, rfl⟩
            rw [← hx1112] at hc1110
            refine EL_ret [.agg ((wof x1099).map (Value.int .u64)).toArray, .agg ((wof R).map (Value.int .u64)).toArray] rfl Try.func27 rfl nm27 rfl (hc1110) ?_
            rintro _ w1113 ⟨rfl, B1114⟩
            have B1115 : Below w.heap.size w w1113 := below_full B1103 B1103.size B1114
            have B1116 : Below w553.heap.size w553 w1113 := below_full B1104 B1104.size B1114
            have B1117 : Below w566.heap.size w566 w1113 := below_full B1105 B1105.size B1114
            have B1118 : Below w1040.heap.size w1040 w1113 := below_full B1106 B1106.size B1114
            have B1119 : Below w1050.heap.size w1050 w1113 := below_full B1107 B1107.size B1114
            have B1120 : Below w1079.heap.size w1079 w1113 := below_full B1108 B1108.size B1114
            have B1121 : Below w1091.heap.size w1091 w1113 := below_full B1109 B1109.size B1114
            have B1122 : Below w1101.heap.size w1101 w1113 := B1114
            refine EL_nil ?_
            refine ⟨rfl, .inr B1117, ?_⟩
            refine EH_one 13 (by kernel_rfl) ⟨_, rfl, ?_⟩
            refine EL_storeAll (v := .agg ((wof x1112).map (Value.int .u64)).toArray) (cs' := ((wof x1112).map (Value.int .u64)).toArray) (by exact e559) rfl rfl (A563.below B1116) (by first | rfl | (simp; done) | (simp; omega)) (Eq.trans (show _ = some 3 from by kernel_rfl) (congrArg some (by first | (simp; done) | (simp; omega) | rfl))) (ints_oneCell _ _) ?_
            intro w1123 A1124 K1125 z1126
            have A1124' : Arr w1123 b541 49 ((wof x1112).map (Value.int .u64)) := by simpa using A1124
            have B1127 : Below w.heap.size w w1123 := below_kept B1115 K1125 (Nat.le_trans B538.size (Nat.le_of_eq k543.symm)) (B1115.size)
            have A1128 : Arr w1123 q6 49 ((wof R).map (Value.int .u64)) := (A561.below B1116).grew K1125 (by simp; omega)
            have A1129 : Arr w1123 q7 49 ((wof NS).map (Value.int .u64)) := (A562.below B1116).grew K1125 (by simp; omega)
            refine EL_nil ?_
            refine ⟨rfl, .inl (by kernel_rfl), ?_⟩
            refine EH_done (by kernel_rfl) ?_
            have hv3 : x1112 % 1361129467683753853853498429727072845819 = (A % 1361129467683753853853498429727072845819 + num (tl.take 16 ++ [1])) * R % 1361129467683753853853498429727072845819 := by rw [← ex1090, ← hx1048, ← hx1099, ← hx1111]; omega
            refine thn_n ?_
            exact ⟨x1112, (by exact e554), (by exact e555), (by exact e556), (by exact e557), (by exact e558), (by exact e559), rfl, by omega, hv3, B1127, A1128, A1129, A1124'⟩
          · refine EL_lit w1040.heap.size #[] elB rfl (by decide) rfl (Nat.le_refl _) (by kernel_rfl) ?_
            intro v1130 w1131 O1132 B1133 k1134 z1135
            have B1136 : Below w.heap.size w w1131 := below_full B1045 B1045.size B1133
            have B1137 : Below w553.heap.size w553 w1131 := below_full B1046 B1046.size B1133
            have B1138 : Below w566.heap.size w566 w1131 := below_full B1047 B1047.size B1133
            have B1139 : Below w1040.heap.size w1040 w1131 := B1133
            have O1132' := own_eq (l := ([] : List UInt8)) O1132 (by simp [bof_val, byt])
            refine EL_nil ?_
            refine ⟨rfl, .inr B1138, ?_⟩
            refine EH_one 1 (by kernel_rfl) ⟨_, rfl, ?_⟩
            obtain ⟨x1140, hx1140⟩ : ∃ z : Int, z = A % 1361129467683753853853498429727072845819 := ⟨_, rfl⟩
            have hc1141 := wleast_c A w1131 (by omega)
            rw [← hx1140] at hc1141
            refine EL_ret [.agg ((wof A).map (Value.int .u64)).toArray] rfl Try.func25 rfl nm25 rfl (hc1141) ?_
            rintro _ w1142 ⟨rfl, B1143⟩
            have B1144 : Below w.heap.size w w1142 := below_full B1136 B1136.size B1143
            have B1145 : Below w553.heap.size w553 w1142 := below_full B1137 B1137.size B1143
            have B1146 : Below w566.heap.size w566 w1142 := below_full B1138 B1138.size B1143
            have B1147 : Below w1040.heap.size w1040 w1142 := below_full B1139 B1139.size B1143
            have B1148 : Below w1131.heap.size w1131 w1142 := B1143
            refine EL_nil ?_
            refine ⟨rfl, .inr B1146, ?_⟩
            refine EH_one 6 (by kernel_rfl) ⟨_, rfl, ?_⟩
            refine EL_append (v := v1130) (xs := ([] : List UInt8).map byt) (ys := (tl.take ((x565 : Int).toNat)).map byt) w1040.heap.size elB rfl rfl rfl (by simpa using (own_below O1132' B1148)) (R571.below B1144) (byt_one _) (by first | (simp only [List.length_map, List.length_nil]; omega) | (simp; done) | (simp; omega)) (by decide) B1147.size ?_
            intro v1149 w1150 O1151 G1152 A1153
            have O1151' := own_app O1151
            have B1154 : Below w.heap.size w w1150 := below_grew B1144 G1152 (own_below O1132' B1148) B1045.size (B1144.size)
            have B1155 : Below w553.heap.size w553 w1150 := below_grew B1145 G1152 (own_below O1132' B1148) B1046.size (B1145.size)
            have B1156 : Below w566.heap.size w566 w1150 := below_grew B1146 G1152 (own_below O1132' B1148) B1047.size (B1146.size)
            have B1157 : Below w1040.heap.size w1040 w1150 := below_grew B1147 G1152 (own_below O1132' B1148) (Nat.le_refl _) (B1147.size)
            refine EL_nil ?_
            refine ⟨rfl, .inr B1156, ?_⟩
            refine EH_one 8 (by kernel_rfl) ⟨_, rfl, ?_⟩
            refine EL_append (v := v1149) (xs := (([] : List UInt8) ++ (tl.take ((x565 : Int).toNat))).map byt) (ys := [(1 : UInt8)].map byt) w1040.heap.size elB rfl rfl rfl (by simpa using O1151') ((own_row O1041').below B1157) (byt_one _) (by first | (simp only [List.length_map, List.length_nil]; omega) | (simp; done) | (simp; omega)) (by decide) B1157.size ?_
            intro v1160 w1161 O1162 G1163 A1164
            have O1162' := own_app O1162
            have B1165 : Below w.heap.size w w1161 := below_grew B1154 G1163 O1151' B1045.size (B1154.size)
            have B1166 : Below w553.heap.size w553 w1161 := below_grew B1155 G1163 O1151' B1046.size (B1155.size)
            have B1167 : Below w566.heap.size w566 w1161 := below_grew B1156 G1163 O1151' B1047.size (B1156.size)
            have B1168 : Below w1040.heap.size w1040 w1161 := below_grew B1157 G1163 O1151' (Nat.le_refl _) (B1157.size)
            refine EL_nil ?_
            refine ⟨rfl, .inr B1167, ?_⟩
            refine EH_one 9 (by kernel_rfl) ⟨_, rfl, ?_⟩
            obtain ⟨x1171, hx1171⟩ : ∃ z : Int, z = num ((([] : List UInt8) ++ (tl.take ((x565 : Int).toNat))) ++ [(1 : UInt8)]) := ⟨_, rfl⟩
            have ex1171 : x1171 = num (tl.take 16 ++ [1]) := by rw [hx1171, ← min_take hx565]; simp
            have bx1171 := num_bd17 (b := tl.take 16) (by simp; omega)
            have nx1171 := num_bd (tl.take 16 ++ [1])
            have hc1170 := pget_c v1160 ((([] : List UInt8) ++ (tl.take ((x565 : Int).toNat))) ++ [(1 : UInt8)]) w1161 (own_row O1162') (by simp; omega)
            rw [← hx1171] at hc1170
            refine EL_ret [v1160] rfl Try.func24 rfl nm24 rfl (hc1170) ?_
            rintro _ w1172 ⟨rfl, B1173⟩
            have B1174 : Below w.heap.size w w1172 := below_full B1165 B1165.size B1173
            have B1175 : Below w553.heap.size w553 w1172 := below_full B1166 B1166.size B1173
            have B1176 : Below w566.heap.size w566 w1172 := below_full B1167 B1167.size B1173
            have B1177 : Below w1040.heap.size w1040 w1172 := below_full B1168 B1168.size B1173
            have B1178 : Below w1161.heap.size w1161 w1172 := B1173
            refine EL_nil ?_
            refine ⟨rfl, .inr B1176, ?_⟩
            refine EH_one 10 (by kernel_rfl) ⟨_, rfl, ?_⟩
            obtain ⟨x1179, hx1179⟩ : ∃ z : Int, z = x1140 + x1171 := ⟨_, rfl⟩
            have hc1180 := wadd_c x1140 x1171 w1172 (by omega) (by omega) (by omega)
            rw [← hx1179] at hc1180
            refine EL_ret [.agg ((wof x1140).map (Value.int .u64)).toArray, .agg ((wof x1171).map (Value.int .u64)).toArray] rfl Try.func26 rfl nm26 rfl (hc1180) ?_
            rintro _ w1181 ⟨rfl, B1182⟩
            have B1183 : Below w.heap.size w w1181 := below_full B1174 B1174.size B1182
            have B1184 : Below w553.heap.size w553 w1181 := below_full B1175 B1175.size B1182
            have B1185 : Below w566.heap.size w566 w1181 := below_full B1176 B1176.size B1182
            have B1186 : Below w1040.heap.size w1040 w1181 := below_full B1177 B1177.size B1182
            have B1187 : Below w1161.heap.size w1161 w1181 := below_full B1178 B1178.size B1182
            have B1188 : Below w1172.heap.size w1172 w1181 := B1182
            refine EL_nil ?_
            refine ⟨rfl, .inr B1185, ?_⟩
            refine EH_one 12 (by kernel_rfl) ⟨_, rfl, ?_⟩
            obtain ⟨x1190, hx1190⟩ : ∃ z : Int, z = x1179 * R := ⟨_, rfl⟩
            have qx1190 := mul_bd (B := 2722258935367507707706996859454145691647) (C := 21267647932558653966460912964485513215) (x := x1179) (y := R) (by omega) (by omega)
            rw [← hx1190] at qx1190
            have hc1189 := wtimes_c x1179 R w1181 (by omega) (by omega)
            rw [← hx1190] at hc1189
            obtain ⟨x1191, hx1191⟩ : ∃ z : Int, z = x1190 % 1361129467683753853853498429727072845824 + 5 * (x1190 / 1361129467683753853853498429727072845824) := ⟨_, rfl⟩
            rw [← hx1191] at hc1189
            refine EL_ret [.agg ((wof x1179).map (Value.int .u64)).toArray, .agg ((wof R).map (Value.int .u64)).toArray] rfl Try.func27 rfl nm27 rfl (hc1189) ?_
            rintro _ w1192 ⟨rfl, B1193⟩
            have B1194 : Below w.heap.size w w1192 := below_full B1183 B1183.size B1193
            have B1195 : Below w553.heap.size w553 w1192 := below_full B1184 B1184.size B1193
            have B1196 : Below w566.heap.size w566 w1192 := below_full B1185 B1185.size B1193
            have B1197 : Below w1040.heap.size w1040 w1192 := below_full B1186 B1186.size B1193
            have B1198 : Below w1161.heap.size w1161 w1192 := below_full B1187 B1187.size B1193
            have B1199 : Below w1172.heap.size w1172 w1192 := below_full B1188 B1188.size B1193
            have B1200 : Below w1181.heap.size w1181 w1192 := B1193
            refine EL_nil ?_
            refine ⟨rfl, .inr B1196, ?_⟩
            refine EH_one 13 (by kernel_rfl) ⟨_, rfl, ?_⟩
            refine EL_storeAll (v := .agg ((wof x1191).map (Value.int .u64)).toArray) (cs' := ((wof x1191).map (Value.int .u64)).toArray) (by exact e559) rfl rfl (A563.below B1195) (by first | rfl | (simp; done) | (simp; omega)) (Eq.trans (show _ = some 3 from by kernel_rfl) (congrArg some (by first | (simp; done) | (simp; omega) | rfl))) (ints_oneCell _ _) ?_
            intro w1201 A1202 K1203 z1204
            have A1202' : Arr w1201 b541 49 ((wof x1191).map (Value.int .u64)) := by simpa using A1202
            have B1205 : Below w.heap.size w w1201 := below_kept B1194 K1203 (Nat.le_trans B538.size (Nat.le_of_eq k543.symm)) (B1194.size)
            have A1206 : Arr w1201 q6 49 ((wof R).map (Value.int .u64)) := (A561.below B1195).grew K1203 (by simp; omega)
            have A1207 : Arr w1201 q7 49 ((wof NS).map (Value.int .u64)) := (A562.below B1195).grew K1203 (by simp; omega)
            refine EL_nil ?_
            refine ⟨rfl, .inl (by kernel_rfl), ?_⟩
            refine EH_done (by kernel_rfl) ?_
            have hv3 : x1191 % 1361129467683753853853498429727072845819 = (A % 1361129467683753853853498429727072845819 + num (tl.take 16 ++ [1])) * R % 1361129467683753853853498429727072845819 := by rw [← ex1171, ← hx1140, ← hx1179, ← hx1190]; omega
            refine thn_n ?_
            exact ⟨x1191, (by exact e554), (by exact e555), (by exact e556), (by exact e557), (by exact e558), (by exact e559), rfl, by omega, hv3, B1205, A1206, A1207, A1202'⟩
      · rintro E1208 w1209 ⟨A2, e1210, e1211, e1212, e1213, e1214, e1215, e1216, hA2, hv2, B1217, A1218, A1219, A1220⟩
        refine EC_reg ?_
        refine EL_val tv w1209 rfl (r_move (by exact e1210)) ?_
        refine EL_val (.int .i64 x565) w1209 rfl (r_move (by exact e1216)) ?_
        refine EL_val (cutV tv ((x565 : Int).toNat) tl.length) w1209 rfl (r_slice rfl (hrow.below B1217) Try.underlying22 (by kernel_rfl) ((x565 : Int).toNat) tl.length (by first | omega | (simp; omega) | simp) (by first | omega | (simp; omega) | simp) (.inr ⟨_, _, rfl, (show _ = Value.int .i64 ((x565 : Int).toNat : Int) from by rw [Int.toNat_of_nonneg (by omega)]; exact rfl)⟩) (.inl ⟨rfl, by simp⟩)) ?_
        have R1221 : Bs w (cutV tv ((x565 : Int).toNat) tl.length) (tl.drop ((x565 : Int).toNat)) := Bs.from hrow ((x565 : Int).toNat) (by first | omega | (simp; omega) | simp)
        have L1222 : (tl.drop ((x565 : Int).toNat)).length = tl.length - ((x565 : Int).toNat) := by first | (simp; done) | (simp; omega)
        refine EL_val (cutV tv ((x565 : Int).toNat) tl.length) w1209 rfl (r_assign rfl) ?_
        refine EL_nil ?_
        refine inB_n ?_
        refine thn_n ?_
        have inv := accS_step R (A % 1361129467683753853853498429727072845819) (t := tl) (by omega)
        rw [hv, ← hv2, ← min_drop hx565] at inv
        refine ⟨_, ?_, (cutV tv ((x565 : Int).toNat) tl.length), tl.drop (x565 : Int).toNat, A2, rfl, rfl, (by exact e1211), (by exact e1212), (by exact e1213), (by exact e1214), (by exact e1215), by omega, by simp; omega, inv.symm, Bs.from hrow _ (by omega), B1217, A1218, A1219, A1220⟩
        first | omega | (simp; omega)
    · refine EC_exit ?_
      refine thn_x ?_
      refine thn_x ?_
      refine inB_hit ?_
      refine thn_n ?_
      refine EC_seq ?_
      refine EC_until 4 (by kernel_rfl) ?_
      intro w1223 B1224 z1225
      have B1226 : Below w.heap.size w w1223 := below_full B560 B560.size B1224
      have B1227 : Below w553.heap.size w553 w1223 := B1224
      refine EH_take 0 rfl (by kernel_rfl) (by kernel_rfl) (by kernel_rfl) rfl 40 (by kernel_rfl) (.agg ((wof A).map (Value.int .u64)).toArray) rfl (fun _ hw => r_loadAll (by exact e559) ((A563.below B1227).below hw) Try.underlying49 rfl (Eq.trans (show _ = some 3 from by kernel_rfl) (congrArg some (by first | (simp; done) | (simp; omega) | rfl)))) (Below.refl _ _) ?_
      refine EH_take 2 rfl (by kernel_rfl) (by kernel_rfl) (by kernel_rfl) rfl 40 (by kernel_rfl) (.agg ((wof NS).map (Value.int .u64)).toArray) rfl (fun _ hw => r_loadAll (by exact e558) ((A562.below B1227).below hw) Try.underlying49 rfl (Eq.trans (show _ = some 3 from by kernel_rfl) (congrArg some (by first | (simp; done) | (simp; omega) | rfl)))) (Below.refl _ _) ?_
      refine EH_one 1 (by kernel_rfl) ⟨_, rfl, ?_⟩
      obtain ⟨x1228, hx1228⟩ : ∃ z : Int, z = A % 1361129467683753853853498429727072845819 := ⟨_, rfl⟩
      have hc1229 := wleast_c A w1223 (by omega)
      rw [← hx1228] at hc1229
      refine EL_ret [.agg ((wof A).map (Value.int .u64)).toArray] rfl Try.func25 rfl nm25 rfl (hc1229) ?_
      rintro _ w1230 ⟨rfl, B1231⟩
      have B1232 : Below w.heap.size w w1230 := below_full B1226 B1226.size B1231
      have B1233 : Below w553.heap.size w553 w1230 := below_full B1227 B1227.size B1231
      have B1234 : Below w1223.heap.size w1223 w1230 := B1231
      refine EL_nil ?_
      refine ⟨rfl, .inr B1234, ?_⟩
      refine EH_one 3 (by kernel_rfl) ⟨_, rfl, ?_⟩
      obtain ⟨x1235, hx1235⟩ : ∃ z : Int, z = x1228 + NS := ⟨_, rfl⟩
      have hc1236 := wadd_c x1228 NS w1230 (by omega) (by omega) (by omega)
      rw [← hx1235] at hc1236
      obtain ⟨f0, f1, f2, fW, fb0, fb1, fb2, fv⟩ := wof_ex (n := x1235) (by omega) (by omega)
      rw [fW] at hc1236
      refine EL_ret [.agg ((wof x1228).map (Value.int .u64)).toArray, .agg ((wof NS).map (Value.int .u64)).toArray] rfl Try.func26 rfl nm26 rfl (hc1236) ?_
      rintro _ w1237 ⟨rfl, B1238⟩
      have B1239 : Below w.heap.size w w1237 := below_full B1232 B1232.size B1238
      have B1240 : Below w553.heap.size w553 w1237 := below_full B1233 B1233.size B1238
      have B1241 : Below w1223.heap.size w1223 w1237 := below_full B1234 B1234.size B1238
      have B1242 : Below w1230.heap.size w1230 w1237 := B1238
      refine EL_nil ?_
      refine ⟨rfl, .inr B1241, ?_⟩
      refine EH_one 4 (by kernel_rfl) ⟨_, rfl, ?_⟩
      refine EL_storeAll (v := .agg (([f0, f1, f2] : List Int).map (Value.int .u64)).toArray) (cs' := (([f0, f1, f2] : List Int).map (Value.int .u64)).toArray) (by exact e559) rfl rfl (A563.below B1240) (by first | rfl | (simp; done) | (simp; omega)) (Eq.trans (show _ = some 3 from by kernel_rfl) (congrArg some (by first | (simp; done) | (simp; omega) | rfl))) (ints_oneCell _ _) ?_
      intro w1243 A1244 K1245 z1246
      have A1244' : Arr w1243 b541 49 (([f0, f1, f2] : List Int).map (Value.int .u64)) := by simpa using A1244
      have B1247 : Below w.heap.size w w1243 := below_kept B1239 K1245 (Nat.le_trans B538.size (Nat.le_of_eq k543.symm)) (B1239.size)
      have A1248 : Arr w1243 q6 49 ((wof R).map (Value.int .u64)) := (A561.below B1240).grew K1245 (by simp; omega)
      have A1249 : Arr w1243 q7 49 ((wof NS).map (Value.int .u64)) := (A562.below B1240).grew K1245 (by simp; omega)
      refine EL_nil ?_
      refine ⟨rfl, .inl (by kernel_rfl), ?_⟩
      refine EH_done (by kernel_rfl) ?_
      refine thn_n ?_
      refine EC_seq ?_
      refine EC_reg ?_
      refine EL_val (.slice none 0 0) w1243 rfl (r_assign rfl) ?_
      refine EL_nil ?_
      refine thn_n ?_
      refine EC_seq ?_
      refine EC_seq ?_
      refine EC_reg ?_
      refine EL_val (.int .i64 0) w1243 rfl (r_move rfl) ?_
      refine EL_nil ?_
      refine thn_n ?_
      refine EC_block ?_
      refine EC_for 17 ?_
      refine U_step ?_
      refine EC_seq ?_
      refine EC_reg ?_
      refine EL_val (.bool true) w1243 rfl (r_dec (by decide) (r_lss rfl rfl)) ?_
      refine EL_nil ?_
      refine thn_n ?_
      refine EC_seq ?_
      refine EC_cond_true rfl ?_
      refine EC_skip ?_
      refine thn_n ?_
      refine EC_seq ?_
      refine EC_block ?_
      refine EC_seq ?_
      refine EC_reg ?_
      refine EL_val (.int .i64 0) w1243 rfl (r_move rfl) ?_
      refine EL_val (.int .i64 0) w1243 rfl (r_assign rfl) ?_
      refine EL_nil ?_
      refine thn_n ?_
      refine EC_reg ?_
      refine EL_val (.slice none 0 0) w1243 rfl (r_move rfl) ?_
      refine EL_val (.int .i64 0) w1243 rfl (r_move rfl) ?_
      refine EL_val (.int .i64 0) w1243 rfl (r_asn (by kernel_rfl) (r_quo rfl rfl (by decide))) ?_
      refine EL_val (ptr b541 0) w1243 rfl (r_indexA (i := 0) (by exact e559) rfl (by omega) (by omega) Try.underlying49 (by kernel_rfl)) ?_
      refine EL_val (.int .u64 f0) w1243 rfl (r_loadA rfl A1244' (u := .int .u64 f0) rfl Try.underlying47 rfl) ?_
      refine EL_val (.int .i64 0) w1243 rfl (r_move rfl) ?_
      refine EL_val (.int .i64 0) w1243 rfl (r_asn (by kernel_rfl) (r_rem rfl rfl (by decide))) ?_
      refine EL_val (.int .i64 0) w1243 rfl (r_asn (by kernel_rfl) (r_mul rfl rfl)) ?_
      refine EL_int (f0 / 1) rfl (r_shri (n := 0) rfl rfl rfl (by decide) (by decide)) ?_
      intro x1250 hx1250
      refine EL_val (.int .u8 (x1250 % 256)) w1243 rfl (r_convb 47 5 rfl Try.underlying47 Try.underlying5) ?_
      refine EL_lit w1243.heap.size #[.int .u8 (x1250 % 256)] elB rfl (by decide) rfl (Nat.le_refl _) (by kernel_rfl) ?_
      intro v1251 w1252 O1253 B1254 k1255 z1256
      have B1257 : Below w.heap.size w w1252 := below_full B1247 B1247.size B1254
      have B1258 : Below w1243.heap.size w1243 w1252 := B1254
      have O1253' := own_eq (l := [bof x1250]) O1253 (by simp [bof_val, byt])
      refine EL_append (v := .slice none 0 0) (xs := ([] : List UInt8).map byt) (ys := [bof x1250].map byt) w1252.heap.size elB rfl rfl rfl (by simpa using (World.ownsRow_nil _ _ _ _)) (own_row O1253') (byt_one _) (by first | (simp only [List.length_map, List.length_nil]; omega) | (simp; done) | (simp; omega)) (by decide) (Nat.le_refl _) ?_
      intro v1259 w1260 O1261 G1262 A1263
      have O1261' := own_app0 O1261
      have B1264 : Below w1252.heap.size w1252 w1260 := ⟨G1262.os, G1262.tape, G1262.output, G1262.size, fun k hk => G1262.block k hk (by simp [Value.ownBlock])⟩
      have B1265 : Below w.heap.size w w1260 := below_full B1257 B1257.size B1264
      have B1266 : Below w1243.heap.size w1243 w1260 := below_full B1258 B1258.size B1264
      have B1267 : Below w1252.heap.size w1252 w1260 := B1264
      refine EL_val v1259 w1260 rfl (r_assign rfl) ?_
      refine EL_nil ?_
      refine inB_n ?_
      refine thn_n ?_
      refine EC_reg ?_
      refine EL_val (.int .i64 1) w1260 rfl (r_asn (by kernel_rfl) (r_add rfl rfl)) ?_
      refine EL_val (.int .i64 1) w1260 rfl (r_move rfl) ?_
      refine EL_nil ?_
      refine thn_n ?_
      refine U_step ?_
      refine EC_seq ?_
      refine EC_reg ?_
      refine EL_val (.bool true) w1260 rfl (r_dec (by decide) (r_lss rfl rfl)) ?_
      refine EL_nil ?_
      refine thn_n ?_
      refine EC_seq ?_
      refine EC_cond_true rfl ?_
      refine EC_skip ?_
      refine thn_n ?_
      refine EC_seq ?_
      refine EC_block ?_
      refine EC_seq ?_
      refine EC_reg ?_
      refine EL_val (.int .i64 1) w1260 rfl (r_move rfl) ?_
      refine EL_val (.int .i64 1) w1260 rfl (r_assign rfl) ?_
      refine EL_nil ?_
      refine thn_n ?_
      refine EC_reg ?_
      refine EL_val v1259 w1260 rfl (r_move rfl) ?_
      refine EL_val (.int .i64 1) w1260 rfl (r_move rfl) ?_
      refine EL_val (.int .i64 0) w1260 rfl (r_asn (by kernel_rfl) (r_quo rfl rfl (by decide))) ?_
      refine EL_val (ptr b541 0) w1260 rfl (r_indexA (i := 0) (by exact e559) rfl (by omega) (by omega) Try.underlying49 (by kernel_rfl)) ?_
      refine EL_val (.int .u64 f0) w1260 rfl (r_loadA rfl (A1244'.below B1266) (u := .int .u64 f0) rfl Try.underlying47 rfl) ?_
      refine EL_val (.int .i64 1) w1260 rfl (r_move rfl) ?_
      refine EL_val (.int .i64 1) w1260 rfl (r_asn (by kernel_rfl) (r_rem rfl rfl (by decide))) ?_
      refine EL_val (.int .i64 8) w1260 rfl (r_asn (by kernel_rfl) (r_mul rfl rfl)) ?_
      refine EL_int (f0 / 256) rfl (r_shri (n := 8) rfl rfl rfl (by decide) (by decide)) ?_
      intro x1268 hx1268
      refine EL_val (.int .u8 (x1268 % 256)) w1260 rfl (r_convb 47 5 rfl Try.underlying47 Try.underlying5) ?_
      refine EL_lit w1260.heap.size #[.int .u8 (x1268 % 256)] elB rfl (by decide) rfl (Nat.le_refl _) (by kernel_rfl) ?_
      intro v1269 w1270 O1271 B1272 k1273 z1274
      have B1275 : Below w.heap.size w w1270 := below_full B1265 B1265.size B1272
      have B1276 : Below w1243.heap.size w1243 w1270 := below_full B1266 B1266.size B1272
      have B1277 : Below w1252.heap.size w1252 w1270 := below_full B1267 B1267.size B1272
      have B1278 : Below w1260.heap.size w1260 w1270 := B1272
      have O1271' := own_eq (l := [bof x1268]) O1271 (by simp [bof_val, byt])
      refine EL_append (v := v1259) (xs := [bof x1250].map byt) (ys := [bof x1268].map byt) w1252.heap.size elB rfl rfl rfl (by simpa using (own_below O1261' B1278)) (own_row O1271') (byt_one _) (by first | (simp only [List.length_map, List.length_nil]; omega) | (simp; done) | (simp; omega)) (by decide) B1277.size ?_
      intro v1279 w1280 O1281 G1282 A1283
      have O1281' := own_app O1281
      have B1284 : Below w.heap.size w w1280 := below_grew B1275 G1282 (own_below O1261' B1278) B1257.size (B1275.size)
      have B1285 : Below w1243.heap.size w1243 w1280 := below_grew B1276 G1282 (own_below O1261' B1278) B1258.size (B1276.size)
      have B1286 : Below w1252.heap.size w1252 w1280 := below_grew B1277 G1282 (own_below O1261' B1278) (Nat.le_refl _) (B1277.size)
      refine EL_val v1279 w1280 rfl (r_assign rfl) ?_
      refine EL_nil ?_
      refine inB_n ?_
      refine thn_n ?_
      refine EC_reg ?_
      refine EL_val (.int .i64 2) w1280 rfl (r_asn (by kernel_rfl) (r_add rfl rfl)) ?_
      refine EL_val (.int .i64 2) w1280 rfl (r_move rfl) ?_
      refine EL_nil ?_
      refine thn_n ?_
      refine U_step ?_
      refine EC_seq ?_
      refine EC_reg ?_
      refine EL_val (.bool true) w1280 rfl (r_dec (by decide) (r_lss rfl rfl)) ?_
      refine EL_nil ?_
      refine thn_n ?_
      refine EC_seq ?_
      refine EC_cond_true rfl ?_
      refine EC_skip ?_
      refine thn_n ?_
      refine EC_seq ?_
      refine EC_block ?_
      refine EC_seq ?_
      refine EC_reg ?_
      refine EL_val (.int .i64 2) w1280 rfl (r_move rfl) ?_
      refine EL_val (.int .i64 2) w1280 rfl (r_assign rfl) ?_
      refine EL_nil ?_
      refine thn_n ?_
      refine EC_reg ?_
      refine EL_val v1279 w1280 rfl (r_move rfl) ?_
      refine EL_val (.int .i64 2) w1280 rfl (r_move rfl) ?_
      refine EL_val (.int .i64 0) w1280 rfl (r_asn (by kernel_rfl) (r_quo rfl rfl (by decide))) ?_
      refine EL_val (ptr b541 0) w1280 rfl (r_indexA (i := 0) (by exact e559) rfl (by omega) (by omega) Try.underlying49 (by kernel_rfl)) ?_
      refine EL_val (.int .u64 f0) w1280 rfl (r_loadA rfl (A1244'.below B1285) (u := .int .u64 f0) rfl Try.underlying47 rfl) ?_
      refine EL_val (.int .i64 2) w1280 rfl (r_move rfl) ?_
      refine EL_val (.int .i64 2) w1280 rfl (r_asn (by kernel_rfl) (r_rem rfl rfl (by decide))) ?_
      refine EL_val (.int .i64 16) w1280 rfl (r_asn (by kernel_rfl) (r_mul rfl rfl)) ?_
      refine EL_int (f0 / 65536) rfl (r_shri (n := 16) rfl rfl rfl (by decide) (by decide)) ?_
      intro x1289 hx1289
      refine EL_val (.int .u8 (x1289 % 256)) w1280 rfl (r_convb 47 5 rfl Try.underlying47 Try.underlying5) ?_
      refine EL_lit w1280.heap.size #[.int .u8 (x1289 % 256)] elB rfl (by decide) rfl (Nat.le_refl _) (by kernel_rfl) ?_
      intro v1290 w1291 O1292 B1293 k1294 z1295
      have B1296 : Below w.heap.size w w1291 := below_full B1284 B1284.size B1293
      have B1297 : Below w1243.heap.size w1243 w1291 := below_full B1285 B1285.size B1293
      have B1298 : Below w1252.heap.size w1252 w1291 := below_full B1286 B1286.size B1293
      have B1299 : Below w1280.heap.size w1280 w1291 := B1293
      have O1292' := own_eq (l := [bof x1289]) O1292 (by simp [bof_val, byt])
      refine EL_append (v := v1279) (xs := ([bof x1250] ++ [bof x1268]).map byt) (ys := [bof x1289].map byt) w1252.heap.size elB rfl rfl rfl (by simpa using (own_below O1281' B1299)) (own_row O1292') (byt_one _) (by first | (simp only [List.length_map, List.length_nil]; omega) | (simp; done) | (simp; omega)) (by decide) B1298.size ?_
      intro v1300 w1301 O1302 G1303 A1304
      have O1302' := own_app O1302
      have B1305 : Below w.heap.size w w1301 := below_grew B1296 G1303 (own_below O1281' B1299) B1257.size (B1296.size)
      have B1306 : Below w1243.heap.size w1243 w1301 := below_grew B1297 G1303 (own_below O1281' B1299) B1258.size (B1297.size)
      have B1307 : Below w1252.heap.size w1252 w1301 := below_grew B1298 G1303 (own_below O1281' B1299) (Nat.le_refl _) (B1298.size)
      refine EL_val v1300 w1301 rfl (r_assign rfl) ?_
      refine EL_nil ?_
      refine inB_n ?_
      refine thn_n ?_
      refine EC_reg ?_
      refine EL_val (.int .i64 3) w1301 rfl (r_asn (by kernel_rfl) (r_add rfl rfl)) ?_
      refine EL_val (.int .i64 3) w1301 rfl (r_move rfl) ?_
      refine EL_nil ?_
      refine thn_n ?_
      refine U_step ?_
      refine EC_seq ?_
      refine EC_reg ?_
      refine EL_val (.bool true) w1301 rfl (r_dec (by decide) (r_lss rfl rfl)) ?_
      refine EL_nil ?_
      refine thn_n ?_
      refine EC_seq ?_
      refine EC_cond_true rfl ?_
      refine EC_skip ?_
      refine thn_n ?_
      refine EC_seq ?_
      refine EC_block ?_
      refine EC_seq ?_
      refine EC_reg ?_
      refine EL_val (.int .i64 3) w1301 rfl (r_move rfl) ?_
      refine EL_val (.int .i64 3) w1301 rfl (r_assign rfl) ?_
      refine EL_nil ?_
      refine thn_n ?_
      refine EC_reg ?_
      refine EL_val v1300 w1301 rfl (r_move rfl) ?_
      refine EL_val (.int .i64 3) w1301 rfl (r_move rfl) ?_
      refine EL_val (.int .i64 0) w1301 rfl (r_asn (by kernel_rfl) (r_quo rfl rfl (by decide))) ?_
      refine EL_val (ptr b541 0) w1301 rfl (r_indexA (i := 0) (by exact e559) rfl (by omega) (by omega) Try.underlying49 (by kernel_rfl)) ?_
      refine EL_val (.int .u64 f0) w1301 rfl (r_loadA rfl (A1244'.below B1306) (u := .int .u64 f0) rfl Try.underlying47 rfl) ?_
      refine EL_val (.int .i64 3) w1301 rfl (r_move rfl) ?_
      refine EL_val (.int .i64 3) w1301 rfl (r_asn (by kernel_rfl) (r_rem rfl rfl (by decide))) ?_
      refine EL_val (.int .i64 24) w1301 rfl (r_asn (by kernel_rfl) (r_mul rfl rfl)) ?_
      refine EL_int (f0 / 16777216) rfl (r_shri (n := 24) rfl rfl rfl (by decide) (by decide)) ?_
      intro x1310 hx1310
      refine EL_val (.int .u8 (x1310 % 256)) w1301 rfl (r_convb 47 5 rfl Try.underlying47 Try.underlying5) ?_
      refine EL_lit w1301.heap.size #[.int .u8 (x1310 % 256)] elB rfl (by decide) rfl (Nat.le_refl _) (by kernel_rfl) ?_
      intro v1311 w1312 O1313 B1314 k1315 z1316
      have B1317 : Below w.heap.size w w1312 := below_full B1305 B1305.size B1314
      have B1318 : Below w1243.heap.size w1243 w1312 := below_full B1306 B1306.size B1314
      have B1319 : Below w1252.heap.size w1252 w1312 := below_full B1307 B1307.size B1314
      have B1320 : Below w1301.heap.size w1301 w1312 := B1314
      have O1313' := own_eq (l := [bof x1310]) O1313 (by simp [bof_val, byt])
      refine EL_append (v := v1300) (xs := (([bof x1250] ++ [bof x1268]) ++ [bof x1289]).map byt) (ys := [bof x1310].map byt) w1252.heap.size elB rfl rfl rfl (by simpa using (own_below O1302' B1320)) (own_row O1313') (byt_one _) (by first | (simp only [List.length_map, List.length_nil]; omega) | (simp; done) | (simp; omega)) (by decide) B1319.size ?_
      intro v1321 w1322 O1323 G1324 A1325
      have O1323' := own_app O1323
      have B1326 : Below w.heap.size w w1322 := below_grew B1317 G1324 (own_below O1302' B1320) B1257.size (B1317.size)
      have B1327 : Below w1243.heap.size w1243 w1322 := below_grew B1318 G1324 (own_below O1302' B1320) B1258.size (B1318.size)
      have B1328 : Below w1252.heap.size w1252 w1322 := below_grew B1319 G1324 (own_below O1302' B1320) (Nat.le_refl _) (B1319.size)
      refine EL_val v1321 w1322 rfl (r_assign rfl) ?_
      refine EL_nil ?_
      refine inB_n ?_
      refine thn_n ?_
      refine EC_reg ?_
      refine EL_val (.int .i64 4) w1322 rfl (r_asn (by kernel_rfl) (r_add rfl rfl)) ?_
      refine EL_val (.int .i64 4) w1322 rfl (r_move rfl) ?_
      refine EL_nil ?_
      refine thn_n ?_
      refine U_step ?_
      refine EC_seq ?_
      refine EC_reg ?_
      refine EL_val (.bool true) w1322 rfl (r_dec (by decide) (r_lss rfl rfl)) ?_
      refine EL_nil ?_
      refine thn_n ?_
      refine EC_seq ?_
      refine EC_cond_true rfl ?_
      refine EC_skip ?_
      refine thn_n ?_
      refine EC_seq ?_
      refine EC_block ?_
      refine EC_seq ?_
      refine EC_reg ?_
      refine EL_val (.int .i64 4) w1322 rfl (r_move rfl) ?_
      refine EL_val (.int .i64 4) w1322 rfl (r_assign rfl) ?_
      refine EL_nil ?_
      refine thn_n ?_
      refine EC_reg ?_
      refine EL_val v1321 w1322 rfl (r_move rfl) ?_
      refine EL_val (.int .i64 4) w1322 rfl (r_move rfl) ?_
      refine EL_val (.int .i64 0) w1322 rfl (r_asn (by kernel_rfl) (r_quo rfl rfl (by decide))) ?_
      refine EL_val (ptr b541 0) w1322 rfl (r_indexA (i := 0) (by exact e559) rfl (by omega) (by omega) Try.underlying49 (by kernel_rfl)) ?_
      refine EL_val (.int .u64 f0) w1322 rfl (r_loadA rfl (A1244'.below B1327) (u := .int .u64 f0) rfl Try.underlying47 rfl) ?_
      refine EL_val (.int .i64 4) w1322 rfl (r_move rfl) ?_
      refine EL_val (.int .i64 4) w1322 rfl (r_asn (by kernel_rfl) (r_rem rfl rfl (by decide))) ?_
      refine EL_val (.int .i64 32) w1322 rfl (r_asn (by kernel_rfl) (r_mul rfl rfl)) ?_
      refine EL_int (f0 / 4294967296) rfl (r_shri (n := 32) rfl rfl rfl (by decide) (by decide)) ?_
      intro x1331 hx1331
      refine EL_val (.int .u8 (x1331 % 256)) w1322 rfl (r_convb 47 5 rfl Try.underlying47 Try.underlying5) ?_
      refine EL_lit w1322.heap.size #[.int .u8 (x1331 % 256)] elB rfl (by decide) rfl (Nat.le_refl _) (by kernel_rfl) ?_
      intro v1332 w1333 O1334 B1335 k1336 z1337
      have B1338 : Below w.heap.size w w1333 := below_full B1326 B1326.size B1335
      have B1339 : Below w1243.heap.size w1243 w1333 := below_full B1327 B1327.size B1335
      have B1340 : Below w1252.heap.size w1252 w1333 := below_full B1328 B1328.size B1335
      have B1341 : Below w1322.heap.size w1322 w1333 := B1335
      have O1334' := own_eq (l := [bof x1331]) O1334 (by simp [bof_val, byt])
      refine EL_append (v := v1321) (xs := ((([bof x1250] ++ [bof x1268]) ++ [bof x1289]) ++ [bof x1310]).map byt) (ys := [bof x1331].map byt) w1252.heap.size elB rfl rfl rfl (by simpa using (own_below O1323' B1341)) (own_row O1334') (byt_one _) (by first | (simp only [List.length_map, List.length_nil]; omega) | (simp; done) | (simp; omega)) (by decide) B1340.size ?_
      intro v1342 w1343 O1344 G1345 A1346
      have O1344' := own_app O1344
      have B1347 : Below w.heap.size w w1343 := below_grew B1338 G1345 (own_below O1323' B1341) B1257.size (B1338.size)
      have B1348 : Below w1243.heap.size w1243 w1343 := below_grew B1339 G1345 (own_below O1323' B1341) B1258.size (B1339.size)
      have B1349 : Below w1252.heap.size w1252 w1343 := below_grew B1340 G1345 (own_below O1323' B1341) (Nat.le_refl _) (B1340.size)
      refine EL_val v1342 w1343 rfl (r_assign rfl) ?_
      refine EL_nil ?_
      refine inB_n ?_
      refine thn_n ?_
      refine EC_reg ?_
      refine EL_val (.int .i64 5) w1343 rfl (r_asn (by kernel_rfl) (r_add rfl rfl)) ?_
      refine EL_val (.int .i64 5) w1343 rfl (r_move rfl) ?_
      refine EL_nil ?_
      refine thn_n ?_
      refine U_step ?_
      refine EC_seq ?_
      refine EC_reg ?_
      refine EL_val (.bool true) w1343 rfl (r_dec (by decide) (r_lss rfl rfl)) ?_
      refine EL_nil ?_
      refine thn_n ?_
      refine EC_seq ?_
      refine EC_cond_true rfl ?_
      refine EC_skip ?_
      refine thn_n ?_
      refine EC_seq ?_
      refine EC_block ?_
      refine EC_seq ?_
      refine EC_reg ?_
      refine EL_val (.int .i64 5) w1343 rfl (r_move rfl) ?_
      refine EL_val (.int .i64 5) w1343 rfl (r_assign rfl) ?_
      refine EL_nil ?_
      refine thn_n ?_
      refine EC_reg ?_
      refine EL_val v1342 w1343 rfl (r_move rfl) ?_
      refine EL_val (.int .i64 5) w1343 rfl (r_move rfl) ?_
      refine EL_val (.int .i64 0) w1343 rfl (r_asn (by kernel_rfl) (r_quo rfl rfl (by decide))) ?_
      refine EL_val (ptr b541 0) w1343 rfl (r_indexA (i := 0) (by exact e559) rfl (by omega) (by omega) Try.underlying49 (by kernel_rfl)) ?_
      refine EL_val (.int .u64 f0) w1343 rfl (r_loadA rfl (A1244'.below B1348) (u := .int .u64 f0) rfl Try.underlying47 rfl) ?_
      refine EL_val (.int .i64 5) w1343 rfl (r_move rfl) ?_
      refine EL_val (.int .i64 5) w1343 rfl (r_asn (by kernel_rfl) (r_rem rfl rfl (by decide))) ?_
      refine EL_val (.int .i64 40) w1343 rfl (r_asn (by kernel_rfl) (r_mul rfl rfl)) ?_
      refine EL_int (f0 / 1099511627776) rfl (r_shri (n := 40) rfl rfl rfl (by decide) (by decide)) ?_
      intro x1352 hx1352
      refine EL_val (.int .u8 (x1352 % 256)) w1343 rfl (r_convb 47 5 rfl Try.underlying47 Try.underlying5) ?_
      refine EL_lit w1343.heap.size #[.int .u8 (x1352 % 256)] elB rfl (by decide) rfl (Nat.le_refl _) (by kernel_rfl) ?_
      intro v1353 w1354 O1355 B1356 k1357 z1358
      have B1359 : Below w.heap.size w w1354 := below_full B1347 B1347.size B1356
      have B1360 : Below w1243.heap.size w1243 w1354 := below_full B1348 B1348.size B1356
      have B1361 : Below w1252.heap.size w1252 w1354 := below_full B1349 B1349.size B1356
      have B1362 : Below w1343.heap.size w1343 w1354 := B1356
      have O1355' := own_eq (l := [bof x1352]) O1355 (by simp [bof_val, byt])
      refine EL_append (v := v1342) (xs := (((([bof x1250] ++ [bof x1268]) ++ [bof x1289]) ++ [bof x1310]) ++ [bof x1331]).map byt) (ys := [bof x1352].map byt) w1252.heap.size elB rfl rfl rfl (by simpa using (own_below O1344' B1362)) (own_row O1355') (byt_one _) (by first | (simp only [List.length_map, List.length_nil]; omega) | (simp; done) | (simp; omega)) (by decide) B1361.size ?_
      intro v1363 w1364 O1365 G1366 A1367
      have O1365' := own_app O1365
      have B1368 : Below w.heap.size w w1364 := below_grew B1359 G1366 (own_below O1344' B1362) B1257.size (B1359.size)
      have B1369 : Below w1243.heap.size w1243 w1364 := below_grew B1360 G1366 (own_below O1344' B1362) B1258.size (B1360.size)
      have B1370 : Below w1252.heap.size w1252 w1364 := below_grew B1361 G1366 (own_below O1344' B1362) (Nat.le_refl _) (B1361.size)
      refine EL_val v1363 w1364 rfl (r_assign rfl) ?_
      refine EL_nil ?_
      refine inB_n ?_
      refine thn_n ?_
      refine EC_reg ?_
      refine EL_val (.int .i64 6) w1364 rfl (r_asn (by kernel_rfl) (r_add rfl rfl)) ?_
      refine EL_val (.int .i64 6) w1364 rfl (r_move rfl) ?_
      refine EL_nil ?_
      refine thn_n ?_
      refine U_step ?_
      refine EC_seq ?_
      refine EC_reg ?_
      refine EL_val (.bool true) w1364 rfl (r_dec (by decide) (r_lss rfl rfl)) ?_
      refine EL_nil ?_
      refine thn_n ?_
      refine EC_seq ?_
      refine EC_cond_true rfl ?_
      refine EC_skip ?_
      refine thn_n ?_
      refine EC_seq ?_
      refine EC_block ?_
      refine EC_seq ?_
      refine EC_reg ?_
      refine EL_val (.int .i64 6) w1364 rfl (r_move rfl) ?_
      refine EL_val (.int .i64 6) w1364 rfl (r_assign rfl) ?_
      refine EL_nil ?_
      refine thn_n ?_
      refine EC_reg ?_
      refine EL_val v1363 w1364 rfl (r_move rfl) ?_
      refine EL_val (.int .i64 6) w1364 rfl (r_move rfl) ?_
      refine EL_val (.int .i64 0) w1364 rfl (r_asn (by kernel_rfl) (r_quo rfl rfl (by decide))) ?_
      refine EL_val (ptr b541 0) w1364 rfl (r_indexA (i := 0) (by exact e559) rfl (by omega) (by omega) Try.underlying49 (by kernel_rfl)) ?_
      refine EL_val (.int .u64 f0) w1364 rfl (r_loadA rfl (A1244'.below B1369) (u := .int .u64 f0) rfl Try.underlying47 rfl) ?_
      refine EL_val (.int .i64 6) w1364 rfl (r_move rfl) ?_
      refine EL_val (.int .i64 6) w1364 rfl (r_asn (by kernel_rfl) (r_rem rfl rfl (by decide))) ?_
      refine EL_val (.int .i64 48) w1364 rfl (r_asn (by kernel_rfl) (r_mul rfl rfl)) ?_
      refine EL_int (f0 / 281474976710656) rfl (r_shri (n := 48) rfl rfl rfl (by decide) (by decide)) ?_
      intro x1373 hx1373
      refine EL_val (.int .u8 (x1373 % 256)) w1364 rfl (r_convb 47 5 rfl Try.underlying47 Try.underlying5) ?_
      refine EL_lit w1364.heap.size #[.int .u8 (x1373 % 256)] elB rfl (by decide) rfl (Nat.le_refl _) (by kernel_rfl) ?_
      intro v1374 w1375 O1376 B1377 k1378 z1379
      have B1380 : Below w.heap.size w w1375 := below_full B1368 B1368.size B1377
      have B1381 : Below w1243.heap.size w1243 w1375 := below_full B1369 B1369.size B1377
      have B1382 : Below w1252.heap.size w1252 w1375 := below_full B1370 B1370.size B1377
      have B1383 : Below w1364.heap.size w1364 w1375 := B1377
      have O1376' := own_eq (l := [bof x1373]) O1376 (by simp [bof_val, byt])
      refine EL_append (v := v1363) (xs := ((((([bof x1250] ++ [bof x1268]) ++ [bof x1289]) ++ [bof x1310]) ++ [bof x1331]) ++ [bof x1352]).map byt) (ys := [bof x1373].map byt) w1252.heap.size elB rfl rfl rfl (by simpa using (own_below O1365' B1383)) (own_row O1376') (byt_one _) (by first | (simp only [List.length_map, List.length_nil]; omega) | (simp; done) | (simp; omega)) (by decide) B1382.size ?_
      intro v1384 w1385 O1386 G1387 A1388
      have O1386' := own_app O1386
      have B1389 : Below w.heap.size w w1385 := below_grew B1380 G1387 (own_below O1365' B1383) B1257.size (B1380.size)
      have B1390 : Below w1243.heap.size w1243 w1385 := below_grew B1381 G1387 (own_below O1365' B1383) B1258.size (B1381.size)
      have B1391 : Below w1252.heap.size w1252 w1385 := below_grew B1382 G1387 (own_below O1365' B1383) (Nat.le_refl _) (B1382.size)
      refine EL_val v1384 w1385 rfl (r_assign rfl) ?_
      refine EL_nil ?_
      refine inB_n ?_
      refine thn_n ?_
      refine EC_reg ?_
      refine EL_val (.int .i64 7) w1385 rfl (r_asn (by kernel_rfl) (r_add rfl rfl)) ?_
      refine EL_val (.int .i64 7) w1385 rfl (r_move rfl) ?_
      refine EL_nil ?_
      refine thn_n ?_
      refine U_step ?_
      refine EC_seq ?_
      refine EC_reg ?_
      refine EL_val (.bool true) w1385 rfl (r_dec (by decide) (r_lss rfl rfl)) ?_
      refine EL_nil ?_
      refine thn_n ?_
      refine EC_seq ?_
      refine EC_cond_true rfl ?_
      refine EC_skip ?_
      refine thn_n ?_
      refine EC_seq ?_
      refine EC_block ?_
      refine EC_seq ?_
      refine EC_reg ?_
      refine EL_val (.int .i64 7) w1385 rfl (r_move rfl) ?_
      refine EL_val (.int .i64 7) w1385 rfl (r_assign rfl) ?_
      refine EL_nil ?_
      refine thn_n ?_
      refine EC_reg ?_
      refine EL_val v1384 w1385 rfl (r_move rfl) ?_
      refine EL_val (.int .i64 7) w1385 rfl (r_move rfl) ?_
      refine EL_val (.int .i64 0) w1385 rfl (r_asn (by kernel_rfl) (r_quo rfl rfl (by decide))) ?_
      refine EL_val (ptr b541 0) w1385 rfl (r_indexA (i := 0) (by exact e559) rfl (by omega) (by omega) Try.underlying49 (by kernel_rfl)) ?_
      refine EL_val (.int .u64 f0) w1385 rfl (r_loadA rfl (A1244'.below B1390) (u := .int .u64 f0) rfl Try.underlying47 rfl) ?_
      refine EL_val (.int .i64 7) w1385 rfl (r_move rfl) ?_
      refine EL_val (.int .i64 7) w1385 rfl (r_asn (by kernel_rfl) (r_rem rfl rfl (by decide))) ?_
      refine EL_val (.int .i64 56) w1385 rfl (r_asn (by kernel_rfl) (r_mul rfl rfl)) ?_
      refine EL_int (f0 / 72057594037927936) rfl (r_shri (n := 56) rfl rfl rfl (by decide) (by decide)) ?_
      intro x1394 hx1394
      refine EL_val (.int .u8 (x1394 % 256)) w1385 rfl (r_convb 47 5 rfl Try.underlying47 Try.underlying5) ?_
      refine EL_lit w1385.heap.size #[.int .u8 (x1394 % 256)] elB rfl (by decide) rfl (Nat.le_refl _) (by kernel_rfl) ?_
      intro v1395 w1396 O1397 B1398 k1399 z1400
      have B1401 : Below w.heap.size w w1396 := below_full B1389 B1389.size B1398
      have B1402 : Below w1243.heap.size w1243 w1396 := below_full B1390 B1390.size B1398
      have B1403 : Below w1252.heap.size w1252 w1396 := below_full B1391 B1391.size B1398
      have B1404 : Below w1385.heap.size w1385 w1396 := B1398
      have O1397' := own_eq (l := [bof x1394]) O1397 (by simp [bof_val, byt])
      refine EL_append (v := v1384) (xs := (((((([bof x1250] ++ [bof x1268]) ++ [bof x1289]) ++ [bof x1310]) ++ [bof x1331]) ++ [bof x1352]) ++ [bof x1373]).map byt) (ys := [bof x1394].map byt) w1252.heap.size elB rfl rfl rfl (by simpa using (own_below O1386' B1404)) (own_row O1397') (byt_one _) (by first | (simp only [List.length_map, List.length_nil]; omega) | (simp; done) | (simp; omega)) (by decide) B1403.size ?_
      intro v1405 w1406 O1407 G1408 A1409
      have O1407' := own_app O1407
      have B1410 : Below w.heap.size w w1406 := below_grew B1401 G1408 (own_below O1386' B1404) B1257.size (B1401.size)
      have B1411 : Below w1243.heap.size w1243 w1406 := below_grew B1402 G1408 (own_below O1386' B1404) B1258.size (B1402.size)
      have B1412 : Below w1252.heap.size w1252 w1406 := below_grew B1403 G1408 (own_below O1386' B1404) (Nat.le_refl _) (B1403.size)
      refine EL_val v1405 w1406 rfl (r_assign rfl) ?_
      refine EL_nil ?_
      refine inB_n ?_
      refine thn_n ?_
      refine EC_reg ?_
      refine EL_val (.int .i64 8) w1406 rfl (r_asn (by kernel_rfl) (r_add rfl rfl)) ?_
      refine EL_val (.int .i64 8) w1406 rfl (r_move rfl) ?_
      refine EL_nil ?_
      refine thn_n ?_
      refine U_step ?_
      refine EC_seq ?_
      refine EC_reg ?_
      refine EL_val (.bool true) w1406 rfl (r_dec (by decide) (r_lss rfl rfl)) ?_
      refine EL_nil ?_
      refine thn_n ?_
      refine EC_seq ?_
      refine EC_cond_true rfl ?_
      refine EC_skip ?_
      refine thn_n ?_
      refine EC_seq ?_
      refine EC_block ?_
      refine EC_seq ?_
      refine EC_reg ?_
      refine EL_val (.int .i64 8) w1406 rfl (r_move rfl) ?_
      refine EL_val (.int .i64 8) w1406 rfl (r_assign rfl) ?_
      refine EL_nil ?_
      refine thn_n ?_
      refine EC_reg ?_
      refine EL_val v1405 w1406 rfl (r_move rfl) ?_
      refine EL_val (.int .i64 8) w1406 rfl (r_move rfl) ?_
      refine EL_val (.int .i64 1) w1406 rfl (r_asn (by kernel_rfl) (r_quo rfl rfl (by decide))) ?_
      refine EL_val (ptr b541 1) w1406 rfl (r_indexA (i := 1) (by exact e559) rfl (by omega) (by omega) Try.underlying49 (by kernel_rfl)) ?_
      refine EL_val (.int .u64 f1) w1406 rfl (r_loadA rfl (A1244'.below B1411) (u := .int .u64 f1) rfl Try.underlying47 rfl) ?_
      refine EL_val (.int .i64 8) w1406 rfl (r_move rfl) ?_
      refine EL_val (.int .i64 0) w1406 rfl (r_asn (by kernel_rfl) (r_rem rfl rfl (by decide))) ?_
      refine EL_val (.int .i64 0) w1406 rfl (r_asn (by kernel_rfl) (r_mul rfl rfl)) ?_
      refine EL_int (f1 / 1) rfl (r_shri (n := 0) rfl rfl rfl (by decide) (by decide)) ?_
      intro x1415 hx1415
      refine EL_val (.int .u8 (x1415 % 256)) w1406 rfl (r_convb 47 5 rfl Try.underlying47 Try.underlying5) ?_
      refine EL_lit w1406.heap.size #[.int .u8 (x1415 % 256)] elB rfl (by decide) rfl (Nat.le_refl _) (by kernel_rfl) ?_
      intro v1416 w1417 O1418 B1419 k1420 z1421
      have B1422 : Below w.heap.size w w1417 := below_full B1410 B1410.size B1419
      have B1423 : Below w1243.heap.size w1243 w1417 := below_full B1411 B1411.size B1419
      have B1424 : Below w1252.heap.size w1252 w1417 := below_full B1412 B1412.size B1419
      have B1425 : Below w1406.heap.size w1406 w1417 := B1419
      have O1418' := own_eq (l := [bof x1415]) O1418 (by simp [bof_val, byt])
      refine EL_append (v := v1405) (xs := ((((((([bof x1250] ++ [bof x1268]) ++ [bof x1289]) ++ [bof x1310]) ++ [bof x1331]) ++ [bof x1352]) ++ [bof x1373]) ++ [bof x1394]).map byt) (ys := [bof x1415].map byt) w1252.heap.size elB rfl rfl rfl (by simpa using (own_below O1407' B1425)) (own_row O1418') (byt_one _) (by first | (simp only [List.length_map, List.length_nil]; omega) | (simp; done) | (simp; omega)) (by decide) B1424.size ?_
      intro v1426 w1427 O1428 G1429 A1430
      have O1428' := own_app O1428
      have B1431 : Below w.heap.size w w1427 := below_grew B1422 G1429 (own_below O1407' B1425) B1257.size (B1422.size)
      have B1432 : Below w1243.heap.size w1243 w1427 := below_grew B1423 G1429 (own_below O1407' B1425) B1258.size (B1423.size)
      have B1433 : Below w1252.heap.size w1252 w1427 := below_grew B1424 G1429 (own_below O1407' B1425) (Nat.le_refl _) (B1424.size)
      refine EL_val v1426 w1427 rfl (r_assign rfl) ?_
      refine EL_nil ?_
      refine inB_n ?_
      refine thn_n ?_
      refine EC_reg ?_
      refine EL_val (.int .i64 9) w1427 rfl (r_asn (by kernel_rfl) (r_add rfl rfl)) ?_
      refine EL_val (.int .i64 9) w1427 rfl (r_move rfl) ?_
      refine EL_nil ?_
      refine thn_n ?_
      refine U_step ?_
      refine EC_seq ?_
      refine EC_reg ?_
      refine EL_val (.bool true) w1427 rfl (r_dec (by decide) (r_lss rfl rfl)) ?_
      refine EL_nil ?_
      refine thn_n ?_
      refine EC_seq ?_
      refine EC_cond_true rfl ?_
      refine EC_skip ?_
      refine thn_n ?_
      refine EC_seq ?_
      refine EC_block ?_
      refine EC_seq ?_
      refine EC_reg ?_
      refine EL_val (.int .i64 9) w1427 rfl (r_move rfl) ?_
      refine EL_val (.int .i64 9) w1427 rfl (r_assign rfl) ?_
      refine EL_nil ?_
      refine thn_n ?_
      refine EC_reg ?_
      refine EL_val v1426 w1427 rfl (r_move rfl) ?_
      refine EL_val (.int .i64 9) w1427 rfl (r_move rfl) ?_
      refine EL_val (.int .i64 1) w1427 rfl (r_asn (by kernel_rfl) (r_quo rfl rfl (by decide))) ?_
      refine EL_val (ptr b541 1) w1427 rfl (r_indexA (i := 1) (by exact e559) rfl (by omega) (by omega) Try.underlying49 (by kernel_rfl)) ?_
      refine EL_val (.int .u64 f1) w1427 rfl (r_loadA rfl (A1244'.below B1432) (u := .int .u64 f1) rfl Try.underlying47 rfl) ?_
      refine EL_val (.int .i64 9) w1427 rfl (r_move rfl) ?_
      refine EL_val (.int .i64 1) w1427 rfl (r_asn (by kernel_rfl) (r_rem rfl rfl (by decide))) ?_
      refine EL_val (.int .i64 8) w1427 rfl (r_asn (by kernel_rfl) (r_mul rfl rfl)) ?_
      refine EL_int (f1 / 256) rfl (r_shri (n := 8) rfl rfl rfl (by decide) (by decide)) ?_
      intro x1436 hx1436
      refine EL_val (.int .u8 (x1436 % 256)) w1427 rfl (r_convb 47 5 rfl Try.underlying47 Try.underlying5) ?_
      refine EL_lit w1427.heap.size #[.int .u8 (x1436 % 256)] elB rfl (by decide) rfl (Nat.le_refl _) (by kernel_rfl) ?_
      intro v1437 w1438 O1439 B1440 k1441 z1442
      have B1443 : Below w.heap.size w w1438 := below_full B1431 B1431.size B1440
      have B1444 : Below w1243.heap.size w1243 w1438 := below_full B1432 B1432.size B1440
      have B1445 : Below w1252.heap.size w1252 w1438 := below_full B1433 B1433.size B1440
      have B1446 : Below w1427.heap.size w1427 w1438 := B1440
      have O1439' := own_eq (l := [bof x1436]) O1439 (by simp [bof_val, byt])
      refine EL_append (v := v1426) (xs := (((((((([bof x1250] ++ [bof x1268]) ++ [bof x1289]) ++ [bof x1310]) ++ [bof x1331]) ++ [bof x1352]) ++ [bof x1373]) ++ [bof x1394]) ++ [bof x1415]).map byt) (ys := [bof x1436].map byt) w1252.heap.size elB rfl rfl rfl (by simpa using (own_below O1428' B1446)) (own_row O1439') (byt_one _) (by first | (simp only [List.length_map, List.length_nil]; omega) | (simp; done) | (simp; omega)) (by decide) B1445.size ?_
      intro v1447 w1448 O1449 G1450 A1451
      have O1449' := own_app O1449
      have B1452 : Below w.heap.size w w1448 := below_grew B1443 G1450 (own_below O1428' B1446) B1257.size (B1443.size)
      have B1453 : Below w1243.heap.size w1243 w1448 := below_grew B1444 G1450 (own_below O1428' B1446) B1258.size (B1444.size)
      have B1454 : Below w1252.heap.size w1252 w1448 := below_grew B1445 G1450 (own_below O1428' B1446) (Nat.le_refl _) (B1445.size)
      refine EL_val v1447 w1448 rfl (r_assign rfl) ?_
      refine EL_nil ?_
      refine inB_n ?_
      refine thn_n ?_
      refine EC_reg ?_
      refine EL_val (.int .i64 10) w1448 rfl (r_asn (by kernel_rfl) (r_add rfl rfl)) ?_
      refine EL_val (.int .i64 10) w1448 rfl (r_move rfl) ?_
      refine EL_nil ?_
      refine thn_n ?_
      refine U_step ?_
      refine EC_seq ?_
      refine EC_reg ?_
      refine EL_val (.bool true) w1448 rfl (r_dec (by decide) (r_lss rfl rfl)) ?_
      refine EL_nil ?_
      refine thn_n ?_
      refine EC_seq ?_
      refine EC_cond_true rfl ?_
      refine EC_skip ?_
      refine thn_n ?_
      refine EC_seq ?_
      refine EC_block ?_
      refine EC_seq ?_
      refine EC_reg ?_
      refine EL_val (.int .i64 10) w1448 rfl (r_move rfl) ?_
      refine EL_val (.int .i64 10) w1448 rfl (r_assign rfl) ?_
      refine EL_nil ?_
      refine thn_n ?_
      refine EC_reg ?_
      refine EL_val v1447 w1448 rfl (r_move rfl) ?_
      refine EL_val (.int .i64 10) w1448 rfl (r_move rfl) ?_
      refine EL_val (.int .i64 1) w1448 rfl (r_asn (by kernel_rfl) (r_quo rfl rfl (by decide))) ?_
      refine EL_val (ptr b541 1) w1448 rfl (r_indexA (i := 1) (by exact e559) rfl (by omega) (by omega) Try.underlying49 (by kernel_rfl)) ?_
      refine EL_val (.int .u64 f1) w1448 rfl (r_loadA rfl (A1244'.below B1453) (u := .int .u64 f1) rfl Try.underlying47 rfl) ?_
      refine EL_val (.int .i64 10) w1448 rfl (r_move rfl) ?_
      refine EL_val (.int .i64 2) w1448 rfl (r_asn (by kernel_rfl) (r_rem rfl rfl (by decide))) ?_
      refine EL_val (.int .i64 16) w1448 rfl (r_asn (by kernel_rfl) (r_mul rfl rfl)) ?_
      refine EL_int (f1 / 65536) rfl (r_shri (n := 16) rfl rfl rfl (by decide) (by decide)) ?_
      intro x1457 hx1457
      refine EL_val (.int .u8 (x1457 % 256)) w1448 rfl (r_convb 47 5 rfl Try.underlying47 Try.underlying5) ?_
      refine EL_lit w1448.heap.size #[.int .u8 (x1457 % 256)] elB rfl (by decide) rfl (Nat.le_refl _) (by kernel_rfl) ?_
      intro v1458 w1459 O1460 B1461 k1462 z1463
      have B1464 : Below w.heap.size w w1459 := below_full B1452 B1452.size B1461
      have B1465 : Below w1243.heap.size w1243 w1459 := below_full B1453 B1453.size B1461
      have B1466 : Below w1252.heap.size w1252 w1459 := below_full B1454 B1454.size B1461
      have B1467 : Below w1448.heap.size w1448 w1459 := B1461
      have O1460' := own_eq (l := [bof x1457]) O1460 (by simp [bof_val, byt])
      refine EL_append (v := v1447) (xs := ((((((((([bof x1250] ++ [bof x1268]) ++ [bof x1289]) ++ [bof x1310]) ++ [bof x1331]) ++ [bof x1352]) ++ [bof x1373]) ++ [bof x1394]) ++ [bof x1415]) ++ [bof x1436]).map byt) (ys := [bof x1457].map byt) w1252.heap.size elB rfl rfl rfl (by simpa using (own_below O1449' B1467)) (own_row O1460') (byt_one _) (by first | (simp only [List.length_map, List.length_nil]; omega) | (simp; done) | (simp; omega)) (by decide) B1466.size ?_
      intro v1468 w1469 O1470 G1471 A1472
      have O1470' := own_app O1470
      have B1473 : Below w.heap.size w w1469 := below_grew B1464 G1471 (own_below O1449' B1467) B1257.size (B1464.size)
      have B1474 : Below w1243.heap.size w1243 w1469 := below_grew B1465 G1471 (own_below O1449' B1467) B1258.size (B1465.size)
      have B1475 : Below w1252.heap.size w1252 w1469 := below_grew B1466 G1471 (own_below O1449' B1467) (Nat.le_refl _) (B1466.size)
      refine EL_val v1468 w1469 rfl (r_assign rfl) ?_
      refine EL_nil ?_
      refine inB_n ?_
      refine thn_n ?_
      refine EC_reg ?_
      refine EL_val (.int .i64 11) w1469 rfl (r_asn (by kernel_rfl) (r_add rfl rfl)) ?_
      refine EL_val (.int .i64 11) w1469 rfl (r_move rfl) ?_
      refine EL_nil ?_
      refine thn_n ?_
      refine U_step ?_
      refine EC_seq ?_
      refine EC_reg ?_
      refine EL_val (.bool true) w1469 rfl (r_dec (by decide) (r_lss rfl rfl)) ?_
      refine EL_nil ?_
      refine thn_n ?_
      refine EC_seq ?_
      refine EC_cond_true rfl ?_
      refine EC_skip ?_
      refine thn_n ?_
      refine EC_seq ?_
      refine EC_block ?_
      refine EC_seq ?_
      refine EC_reg ?_
      refine EL_val (.int .i64 11) w1469 rfl (r_move rfl) ?_
      refine EL_val (.int .i64 11) w1469 rfl (r_assign rfl) ?_
      refine EL_nil ?_
      refine thn_n ?_
      refine EC_reg ?_
      refine EL_val v1468 w1469 rfl (r_move rfl) ?_
      refine EL_val (.int .i64 11) w1469 rfl (r_move rfl) ?_
      refine EL_val (.int .i64 1) w1469 rfl (r_asn (by kernel_rfl) (r_quo rfl rfl (by decide))) ?_
      refine EL_val (ptr b541 1) w1469 rfl (r_indexA (i := 1) (by exact e559) rfl (by omega) (by omega) Try.underlying49 (by kernel_rfl)) ?_
      refine EL_val (.int .u64 f1) w1469 rfl (r_loadA rfl (A1244'.below B1474) (u := .int .u64 f1) rfl Try.underlying47 rfl) ?_
      refine EL_val (.int .i64 11) w1469 rfl (r_move rfl) ?_
      refine EL_val (.int .i64 3) w1469 rfl (r_asn (by kernel_rfl) (r_rem rfl rfl (by decide))) ?_
      refine EL_val (.int .i64 24) w1469 rfl (r_asn (by kernel_rfl) (r_mul rfl rfl)) ?_
      refine EL_int (f1 / 16777216) rfl (r_shri (n := 24) rfl rfl rfl (by decide) (by decide)) ?_
      intro x1478 hx1478
      refine EL_val (.int .u8 (x1478 % 256)) w1469 rfl (r_convb 47 5 rfl Try.underlying47 Try.underlying5) ?_
      refine EL_lit w1469.heap.size #[.int .u8 (x1478 % 256)] elB rfl (by decide) rfl (Nat.le_refl _) (by kernel_rfl) ?_
      intro v1479 w1480 O1481 B1482 k1483 z1484
      have B1485 : Below w.heap.size w w1480 := below_full B1473 B1473.size B1482
      have B1486 : Below w1243.heap.size w1243 w1480 := below_full B1474 B1474.size B1482
      have B1487 : Below w1252.heap.size w1252 w1480 := below_full B1475 B1475.size B1482
      have B1488 : Below w1469.heap.size w1469 w1480 := B1482
      have O1481' := own_eq (l := [bof x1478]) O1481 (by simp [bof_val, byt])
      refine EL_append (v := v1468) (xs := (((((((((([bof x1250] ++ [bof x1268]) ++ [bof x1289]) ++ [bof x1310]) ++ [bof x1331]) ++ [bof x1352]) ++ [bof x1373]) ++ [bof x1394]) ++ [bof x1415]) ++ [bof x1436]) ++ [bof x1457]).map byt) (ys := [bof x1478].map byt) w1252.heap.size elB rfl rfl rfl (by simpa using (own_below O1470' B1488)) (own_row O1481') (byt_one _) (by first | (simp only [List.length_map, List.length_nil]; omega) | (simp; done) | (simp; omega)) (by decide) B1487.size ?_
      intro v1489 w1490 O1491 G1492 A1493
      have O1491' := own_app O1491
      have B1494 : Below w.heap.size w w1490 := below_grew B1485 G1492 (own_below O1470' B1488) B1257.size (B1485.size)
      have B1495 : Below w1243.heap.size w1243 w1490 := below_grew B1486 G1492 (own_below O1470' B1488) B1258.size (B1486.size)
      have B1496 : Below w1252.heap.size w1252 w1490 := below_grew B1487 G1492 (own_below O1470' B1488) (Nat.le_refl _) (B1487.size)
      refine EL_val v1489 w1490 rfl (r_assign rfl) ?_
      refine EL_nil ?_
      refine inB_n ?_
      refine thn_n ?_
      refine EC_reg ?_
      refine EL_val (.int .i64 12) w1490 rfl (r_asn (by kernel_rfl) (r_add rfl rfl)) ?_
      refine EL_val (.int .i64 12) w1490 rfl (r_move rfl) ?_
      refine EL_nil ?_
      refine thn_n ?_
      refine U_step ?_
      refine EC_seq ?_
      refine EC_reg ?_
      refine EL_val (.bool true) w1490 rfl (r_dec (by decide) (r_lss rfl rfl)) ?_
      refine EL_nil ?_
      refine thn_n ?_
      refine EC_seq ?_
      refine EC_cond_true rfl ?_
      refine EC_skip ?_
      refine thn_n ?_
      refine EC_seq ?_
      refine EC_block ?_
      refine EC_seq ?_
      refine EC_reg ?_
      refine EL_val (.int .i64 12) w1490 rfl (r_move rfl) ?_
      refine EL_val (.int .i64 12) w1490 rfl (r_assign rfl) ?_
      refine EL_nil ?_
      refine thn_n ?_
      refine EC_reg ?_
      refine EL_val v1489 w1490 rfl (r_move rfl) ?_
      refine EL_val (.int .i64 12) w1490 rfl (r_move rfl) ?_
      refine EL_val (.int .i64 1) w1490 rfl (r_asn (by kernel_rfl) (r_quo rfl rfl (by decide))) ?_
      refine EL_val (ptr b541 1) w1490 rfl (r_indexA (i := 1) (by exact e559) rfl (by omega) (by omega) Try.underlying49 (by kernel_rfl)) ?_
      refine EL_val (.int .u64 f1) w1490 rfl (r_loadA rfl (A1244'.below B1495) (u := .int .u64 f1) rfl Try.underlying47 rfl) ?_
      refine EL_val (.int .i64 12) w1490 rfl (r_move rfl) ?_
      refine EL_val (.int .i64 4) w1490 rfl (r_asn (by kernel_rfl) (r_rem rfl rfl (by decide))) ?_
      refine EL_val (.int .i64 32) w1490 rfl (r_asn (by kernel_rfl) (r_mul rfl rfl)) ?_
      refine EL_int (f1 / 4294967296) rfl (r_shri (n := 32) rfl rfl rfl (by decide) (by decide)) ?_
      intro x1499 hx1499
      refine EL_val (.int .u8 (x1499 % 256)) w1490 rfl (r_convb 47 5 rfl Try.underlying47 Try.underlying5) ?_
      refine EL_lit w1490.heap.size #[.int .u8 (x1499 % 256)] elB rfl (by decide) rfl (Nat.le_refl _) (by kernel_rfl) ?_
      intro v1500 w1501 O1502 B1503 k1504 z1505
      have B1506 : Below w.heap.size w w1501 := below_full B1494 B1494.size B1503
      have B1507 : Below w1243.heap.size w1243 w1501 := below_full B1495 B1495.size B1503
      have B1508 : Below w1252.heap.size w1252 w1501 := below_full B1496 B1496.size B1503
      have B1509 : Below w1490.heap.size w1490 w1501 := B1503
      have O1502' := own_eq (l := [bof x1499]) O1502 (by simp [bof_val, byt])
      refine EL_append (v := v1489) (xs := ((((((((((([bof x1250] ++ [bof x1268]) ++ [bof x1289]) ++ [bof x1310]) ++ [bof x1331]) ++ [bof x1352]) ++ [bof x1373]) ++ [bof x1394]) ++ [bof x1415]) ++ [bof x1436]) ++ [bof x1457]) ++ [bof x1478]).map byt) (ys := [bof x1499].map byt) w1252.heap.size elB rfl rfl rfl (by simpa using (own_below O1491' B1509)) (own_row O1502') (byt_one _) (by first | (simp only [List.length_map, List.length_nil]; omega) | (simp; done) | (simp; omega)) (by decide) B1508.size ?_
      intro v1510 w1511 O1512 G1513 A1514
      have O1512' := own_app O1512
      have B1515 : Below w.heap.size w w1511 := below_grew B1506 G1513 (own_below O1491' B1509) B1257.size (B1506.size)
      have B1516 : Below w1243.heap.size w1243 w1511 := below_grew B1507 G1513 (own_below O1491' B1509) B1258.size (B1507.size)
      have B1517 : Below w1252.heap.size w1252 w1511 := below_grew B1508 G1513 (own_below O1491' B1509) (Nat.le_refl _) (B1508.size)
      refine EL_val v1510 w1511 rfl (r_assign rfl) ?_
      refine EL_nil ?_
      refine inB_n ?_
      refine thn_n ?_
      refine EC_reg ?_
      refine EL_val (.int .i64 13) w1511 rfl (r_asn (by kernel_rfl) (r_add rfl rfl)) ?_
      refine EL_val (.int .i64 13) w1511 rfl (r_move rfl) ?_
      refine EL_nil ?_
      refine thn_n ?_
      refine U_step ?_
      refine EC_seq ?_
      refine EC_reg ?_
      refine EL_val (.bool true) w1511 rfl (r_dec (by decide) (r_lss rfl rfl)) ?_
      refine EL_nil ?_
      refine thn_n ?_
      refine EC_seq ?_
      refine EC_cond_true rfl ?_
      refine EC_skip ?_
      refine thn_n ?_
      refine EC_seq ?_
      refine EC_block ?_
      refine EC_seq ?_
      refine EC_reg ?_
      refine EL_val (.int .i64 13) w1511 rfl (r_move rfl) ?_
      refine EL_val (.int .i64 13) w1511 rfl (r_assign rfl) ?_
      refine EL_nil ?_
      refine thn_n ?_
      refine EC_reg ?_
      refine EL_val v1510 w1511 rfl (r_move rfl) ?_
      refine EL_val (.int .i64 13) w1511 rfl (r_move rfl) ?_
      refine EL_val (.int .i64 1) w1511 rfl (r_asn (by kernel_rfl) (r_quo rfl rfl (by decide))) ?_
      refine EL_val (ptr b541 1) w1511 rfl (r_indexA (i := 1) (by exact e559) rfl (by omega) (by omega) Try.underlying49 (by kernel_rfl)) ?_
      refine EL_val (.int .u64 f1) w1511 rfl (r_loadA rfl (A1244'.below B1516) (u := .int .u64 f1) rfl Try.underlying47 rfl) ?_
      refine EL_val (.int .i64 13) w1511 rfl (r_move rfl) ?_
      refine EL_val (.int .i64 5) w1511 rfl (r_asn (by kernel_rfl) (r_rem rfl rfl (by decide))) ?_
      refine EL_val (.int .i64 40) w1511 rfl (r_asn (by kernel_rfl) (r_mul rfl rfl)) ?_
      refine EL_int (f1 / 1099511627776) rfl (r_shri (n := 40) rfl rfl rfl (by decide) (by decide)) ?_
      intro x1520 hx1520
      refine EL_val (.int .u8 (x1520 % 256)) w1511 rfl (r_convb 47 5 rfl Try.underlying47 Try.underlying5) ?_
      refine EL_lit w1511.heap.size #[.int .u8 (x1520 % 256)] elB rfl (by decide) rfl (Nat.le_refl _) (by kernel_rfl) ?_
      intro v1521 w1522 O1523 B1524 k1525 z1526
      have B1527 : Below w.heap.size w w1522 := below_full B1515 B1515.size B1524
      have B1528 : Below w1243.heap.size w1243 w1522 := below_full B1516 B1516.size B1524
      have B1529 : Below w1252.heap.size w1252 w1522 := below_full B1517 B1517.size B1524
      have B1530 : Below w1511.heap.size w1511 w1522 := B1524
      have O1523' := own_eq (l := [bof x1520]) O1523 (by simp [bof_val, byt])
      refine EL_append (v := v1510) (xs := (((((((((((([bof x1250] ++ [bof x1268]) ++ [bof x1289]) ++ [bof x1310]) ++ [bof x1331]) ++ [bof x1352]) ++ [bof x1373]) ++ [bof x1394]) ++ [bof x1415]) ++ [bof x1436]) ++ [bof x1457]) ++ [bof x1478]) ++ [bof x1499]).map byt) (ys := [bof x1520].map byt) w1252.heap.size elB rfl rfl rfl (by simpa using (own_below O1512' B1530)) (own_row O1523') (byt_one _) (by first | (simp only [List.length_map, List.length_nil]; omega) | (simp; done) | (simp; omega)) (by decide) B1529.size ?_
      intro v1531 w1532 O1533 G1534 A1535
      have O1533' := own_app O1533
      have B1536 : Below w.heap.size w w1532 := below_grew B1527 G1534 (own_below O1512' B1530) B1257.size (B1527.size)
      have B1537 : Below w1243.heap.size w1243 w1532 := below_grew B1528 G1534 (own_below O1512' B1530) B1258.size (B1528.size)
      have B1538 : Below w1252.heap.size w1252 w1532 := below_grew B1529 G1534 (own_below O1512' B1530) (Nat.le_refl _) (B1529.size)
      refine EL_val v1531 w1532 rfl (r_assign rfl) ?_
      refine EL_nil ?_
      refine inB_n ?_
      refine thn_n ?_
      refine EC_reg ?_
      refine EL_val (.int .i64 14) w1532 rfl (r_asn (by kernel_rfl) (r_add rfl rfl)) ?_
      refine EL_val (.int .i64 14) w1532 rfl (r_move rfl) ?_
      refine EL_nil ?_
      refine thn_n ?_
      refine U_step ?_
      refine EC_seq ?_
      refine EC_reg ?_
      refine EL_val (.bool true) w1532 rfl (r_dec (by decide) (r_lss rfl rfl)) ?_
      refine EL_nil ?_
      refine thn_n ?_
      refine EC_seq ?_
      refine EC_cond_true rfl ?_
      refine EC_skip ?_
      refine thn_n ?_
      refine EC_seq ?_
      refine EC_block ?_
      refine EC_seq ?_
      refine EC_reg ?_
      refine EL_val (.int .i64 14) w1532 rfl (r_move rfl) ?_
      refine EL_val (.int .i64 14) w1532 rfl (r_assign rfl) ?_
      refine EL_nil ?_
      refine thn_n ?_
      refine EC_reg ?_
      refine EL_val v1531 w1532 rfl (r_move rfl) ?_
      refine EL_val (.int .i64 14) w1532 rfl (r_move rfl) ?_
      refine EL_val (.int .i64 1) w1532 rfl (r_asn (by kernel_rfl) (r_quo rfl rfl (by decide))) ?_
      refine EL_val (ptr b541 1) w1532 rfl (r_indexA (i := 1) (by exact e559) rfl (by omega) (by omega) Try.underlying49 (by kernel_rfl)) ?_
      refine EL_val (.int .u64 f1) w1532 rfl (r_loadA rfl (A1244'.below B1537) (u := .int .u64 f1) rfl Try.underlying47 rfl) ?_
      refine EL_val (.int .i64 14) w1532 rfl (r_move rfl) ?_
      refine EL_val (.int .i64 6) w1532 rfl (r_asn (by kernel_rfl) (r_rem rfl rfl (by decide))) ?_
      refine EL_val (.int .i64 48) w1532 rfl (r_asn (by kernel_rfl) (r_mul rfl rfl)) ?_
      refine EL_int (f1 / 281474976710656) rfl (r_shri (n := 48) rfl rfl rfl (by decide) (by decide)) ?_
      intro x1541 hx1541
      refine EL_val (.int .u8 (x1541 % 256)) w1532 rfl (r_convb 47 5 rfl Try.underlying47 Try.underlying5) ?_
      refine EL_lit w1532.heap.size #[.int .u8 (x1541 % 256)] elB rfl (by decide) rfl (Nat.le_refl _) (by kernel_rfl) ?_
      intro v1542 w1543 O1544 B1545 k1546 z1547
      have B1548 : Below w.heap.size w w1543 := below_full B1536 B1536.size B1545
      have B1549 : Below w1243.heap.size w1243 w1543 := below_full B1537 B1537.size B1545
      have B1550 : Below w1252.heap.size w1252 w1543 := below_full B1538 B1538.size B1545
      have B1551 : Below w1532.heap.size w1532 w1543 := B1545
      have O1544' := own_eq (l := [bof x1541]) O1544 (by simp [bof_val, byt])
      refine EL_append (v := v1531) (xs := ((((((((((((([bof x1250] ++ [bof x1268]) ++ [bof x1289]) ++ [bof x1310]) ++ [bof x1331]) ++ [bof x1352]) ++ [bof x1373]) ++ [bof x1394]) ++ [bof x1415]) ++ [bof x1436]) ++ [bof x1457]) ++ [bof x1478]) ++ [bof x1499]) ++ [bof x1520]).map byt) (ys := [bof x1541].map byt) w1252.heap.size elB rfl rfl rfl (by simpa using (own_below O1533' B1551)) (own_row O1544') (byt_one _) (by first | (simp only [List.length_map, List.length_nil]; omega) | (simp; done) | (simp; omega)) (by decide) B1550.size ?_
      intro v1552 w1553 O1554 G1555 A1556
      have O1554' := own_app O1554
      have B1557 : Below w.heap.size w w1553 := below_grew B1548 G1555 (own_below O1533' B1551) B1257.size (B1548.size)
      have B1558 : Below w1243.heap.size w1243 w1553 := below_grew B1549 G1555 (own_below O1533' B1551) B1258.size (B1549.size)
      have B1559 : Below w1252.heap.size w1252 w1553 := below_grew B1550 G1555 (own_below O1533' B1551) (Nat.le_refl _) (B1550.size)
      refine EL_val v1552 w1553 rfl (r_assign rfl) ?_
      refine EL_nil ?_
      refine inB_n ?_
      refine thn_n ?_
      refine EC_reg ?_
      refine EL_val (.int .i64 15) w1553 rfl (r_asn (by kernel_rfl) (r_add rfl rfl)) ?_
      refine EL_val (.int .i64 15) w1553 rfl (r_move rfl) ?_
      refine EL_nil ?_
      refine thn_n ?_
      refine U_step ?_
      refine EC_seq ?_
      refine EC_reg ?_
      refine EL_val (.bool true) w1553 rfl (r_dec (by decide) (r_lss rfl rfl)) ?_
      refine EL_nil ?_
      refine thn_n ?_
      refine EC_seq ?_
      refine EC_cond_true rfl ?_
      refine EC_skip ?_
      refine thn_n ?_
      refine EC_seq ?_
      refine EC_block ?_
      refine EC_seq ?_
      refine EC_reg ?_
      refine EL_val (.int .i64 15) w1553 rfl (r_move rfl) ?_
      refine EL_val (.int .i64 15) w1553 rfl (r_assign rfl) ?_
      refine EL_nil ?_
      refine thn_n ?_
      refine EC_reg ?_
      refine EL_val v1552 w1553 rfl (r_move rfl) ?_
      refine EL_val (.int .i64 15) w1553 rfl (r_move rfl) ?_
      refine EL_val (.int .i64 1) w1553 rfl (r_asn (by kernel_rfl) (r_quo rfl rfl (by decide))) ?_
      refine EL_val (ptr b541 1) w1553 rfl (r_indexA (i := 1) (by exact e559) rfl (by omega) (by omega) Try.underlying49 (by kernel_rfl)) ?_
      refine EL_val (.int .u64 f1) w1553 rfl (r_loadA rfl (A1244'.below B1558) (u := .int .u64 f1) rfl Try.underlying47 rfl) ?_
      refine EL_val (.int .i64 15) w1553 rfl (r_move rfl) ?_
      refine EL_val (.int .i64 7) w1553 rfl (r_asn (by kernel_rfl) (r_rem rfl rfl (by decide))) ?_
      refine EL_val (.int .i64 56) w1553 rfl (r_asn (by kernel_rfl) (r_mul rfl rfl)) ?_
      refine EL_int (f1 / 72057594037927936) rfl (r_shri (n := 56) rfl rfl rfl (by decide) (by decide)) ?_
      intro x1562 hx1562
      refine EL_val (.int .u8 (x1562 % 256)) w1553 rfl (r_convb 47 5 rfl Try.underlying47 Try.underlying5) ?_
      refine EL_lit w1553.heap.size #[.int .u8 (x1562 % 256)] elB rfl (by decide) rfl (Nat.le_refl _) (by kernel_rfl) ?_
      intro v1563 w1564 O1565 B1566 k1567 z1568
      have B1569 : Below w.heap.size w w1564 := below_full B1557 B1557.size B1566
      have B1570 : Below w1243.heap.size w1243 w1564 := below_full B1558 B1558.size B1566
      have B1571 : Below w1252.heap.size w1252 w1564 := below_full B1559 B1559.size B1566
      have B1572 : Below w1553.heap.size w1553 w1564 := B1566
      have O1565' := own_eq (l := [bof x1562]) O1565 (by simp [bof_val, byt])
      refine EL_append (v := v1552) (xs := (((((((((((((([bof x1250] ++ [bof x1268]) ++ [bof x1289]) ++ [bof x1310]) ++ [bof x1331]) ++ [bof x1352]) ++ [bof x1373]) ++ [bof x1394]) ++ [bof x1415]) ++ [bof x1436]) ++ [bof x1457]) ++ [bof x1478]) ++ [bof x1499]) ++ [bof x1520]) ++ [bof x1541]).map byt) (ys := [bof x1562].map byt) w1252.heap.size elB rfl rfl rfl (by simpa using (own_below O1554' B1572)) (own_row O1565') (byt_one _) (by first | (simp only [List.length_map, List.length_nil]; omega) | (simp; done) | (simp; omega)) (by decide) B1571.size ?_
      intro v1573 w1574 O1575 G1576 A1577
      have O1575' := own_app O1575
      have B1578 : Below w.heap.size w w1574 := below_grew B1569 G1576 (own_below O1554' B1572) B1257.size (B1569.size)
      have B1579 : Below w1243.heap.size w1243 w1574 := below_grew B1570 G1576 (own_below O1554' B1572) B1258.size (B1570.size)
      have B1580 : Below w1252.heap.size w1252 w1574 := below_grew B1571 G1576 (own_below O1554' B1572) (Nat.le_refl _) (B1571.size)
      refine EL_val v1573 w1574 rfl (r_assign rfl) ?_
      refine EL_nil ?_
      refine inB_n ?_
      refine thn_n ?_
      refine EC_reg ?_
      refine EL_val (.int .i64 16) w1574 rfl (r_asn (by kernel_rfl) (r_add rfl rfl)) ?_
      refine EL_val (.int .i64 16) w1574 rfl (r_move rfl) ?_
      refine EL_nil ?_
      refine thn_n ?_
      refine U_step ?_
      refine EC_seq ?_
      refine EC_reg ?_
      refine EL_val (.bool false) w1574 rfl (r_dec (by decide) (r_lss rfl rfl)) ?_
      refine EL_nil ?_
      refine thn_n ?_
      refine EC_seq ?_
      refine EC_cond_false rfl ?_
      refine EC_exit ?_
      refine thn_x ?_
      refine thn_x ?_
      refine inB_hit ?_
      refine thn_n ?_
      refine EC_seq ?_
      refine EC_reg ?_
      refine EL_val v1573 w1574 rfl (r_move rfl) ?_
      refine EL_val v1573 w1574 rfl (r_assign rfl) ?_
      refine EL_val (.int .i64 0) w1574 rfl (r_assign rfl) ?_
      refine EL_nil ?_
      refine thn_n ?_
      refine EC_ret ?_
      refine fin2 Try.results16 (show _ = v1573 from rfl) (show _ = .int .i64 0 from rfl) ⟨_, rfl, ?_⟩
      have etl : tl = [] := List.eq_nil_of_length_eq_zero (by omega)
      rw [etl, accS_nil] at hv
      have ef : (((((((((((((([bof x1250] ++ [bof x1268]) ++ [bof x1289]) ++ [bof x1310]) ++ [bof x1331]) ++ [bof x1352]) ++ [bof x1373]) ++ [bof x1394]) ++ [bof x1415]) ++ [bof x1436]) ++ [bof x1457]) ++ [bof x1478]) ++ [bof x1499]) ++ [bof x1520]) ++ [bof x1541]) ++ [bof x1562] = tag k t := by
        rw [tag, ← hNS, ← hR, ← hv, ← hx1228, ← hx1235, fv, ← tgn_words fb0 fb1]
        simp only [List.cons_append, List.nil_append, hx1250, hx1268, hx1289, hx1310, hx1331, hx1352, hx1373, hx1394, hx1415, hx1436, hx1457, hx1478, hx1499, hx1520, hx1541, hx1562, Int.ediv_one]
      exact ⟨_, rfl, own_as (own_mono O1575' B1257.size) ef, B1578⟩

set_option maxRecDepth 100000 in
set_option maxHeartbeats 4000000 in
theorem Tag_no (v0 : Value) (k : List UInt8) (v1 : Value) (t : List UInt8) (w : World) (H0 : Bs w v0 k) (H1 : Bs w v1 t) (hk : k.length ≠ 32) : Ret Try.prog 16 [v0, v1] w fun v w' => v = .tuple #[.slice none 0 0, .int .i64 11] ∧ w = w' := by
  refine ret_E Try.func16 rfl Try.ntmps16 (by simp) ?_
  refine EC_seq ?_
  refine EC_reg ?_
  refine EL_val (.slice none 0 0) w rfl (r_assign rfl) ?_
  refine EL_val (.int .i64 0) w rfl (r_assign rfl) ?_
  refine EL_nil ?_
  refine thn_n ?_
  refine EC_seq ?_
  refine EC_seq ?_
  refine EC_reg ?_
  refine EL_val v0 w rfl (r_move rfl) ?_
  refine EL_val (.int .i64 (k.length : Int)) w rfl (lenB (r_len rfl H0 Try.underlying22)) ?_
  refine EL_val (.bool (decide ((k.length : Int) ≠ 32))) w rfl (r_neq rfl rfl) ?_
  refine EL_nil ?_
  refine thn_n ?_
  refine EC_cond_true (Eq.trans (show _ = Value.bool (decide ((k.length : Int) ≠ 32)) from rfl) (congrArg Value.bool (show (decide ((k.length : Int) ≠ 32)) = true from by simp; omega))) ?_
  refine EC_seq ?_
  refine EC_reg ?_
  refine EL_val (.slice none 0 0) w rfl (r_assign rfl) ?_
  refine EL_val (.int .i64 11) w rfl (r_assign rfl) ?_
  refine EL_nil ?_
  refine thn_n ?_
  refine EC_ret ?_
  refine thn_r ?_
  refine fin2 Try.results16 (show _ = .slice none 0 0 from rfl) (show _ = .int .i64 11 from rfl) ⟨_, rfl, ?_⟩
  exact ⟨rfl, rfl⟩

end Go.Proofs.Ytlhaojpkejpgfaa
