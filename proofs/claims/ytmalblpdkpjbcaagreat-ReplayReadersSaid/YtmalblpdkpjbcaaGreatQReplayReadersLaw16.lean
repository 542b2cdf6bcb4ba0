import Derived.Test.YtmalblpdkpjbcaaGreatQReplayReadersReplay
set_option linter.unusedVariables false
set_option linter.unusedSimpArgs false
namespace Go.Ecal
open Go.RowKit
/-- A field of a struct that is told. -/
theorem r_field {P : Program} {E : Env} {w : World} {dst : Option Tmp} {ty t : TypeId} {pos : String} {aft : Array Edge} {gd : Option (Nat × Bool)} {x : Operand} {cs : List Value} {u : Value} {f : Nat} {fs : Array Field} {fd : Field} {ds : TypeDesc}
    (hx : ev E x = .agg cs.toArray) (ht : P.underlying t = some (.struct fs)) (hf : fs[f]? = some fd) (hd : P.underlying fd.type = some ds) (ho : oneB ds = true) (hu : cs[fd.offset]? = some u) :
    Gives P E w ⟨dst, .field t x f, ty, pos, aft, gd⟩ u w := by
  simp only [Gives, execOp, hx]
  cases ds <;> simp [oneB] at ho <;> simp [Instr.field, run_underlying ht, hf, asAgg, part, isAgg, run_underlying hd, hu]
end Go.Ecal
namespace Go.Proofs.YtmalblpdkpjbcaaGreat
open Go.RowKit Go.Ecal
def putEn (w q : Int) (n v : List UInt8) : Entry := ⟨1, w, q, n, v, 0, 0, 0, []⟩
/-- Have two policies the same? -/
def membS (a b : Pol) : Bool := (List.range 16).all (fun i => decide (rightsOf a.mem ((i : Int) + 1) = rightsOf b.mem ((i : Int) + 1))) && (decide (a.epoch = b.epoch) && decide (a.founder = b.founder))
theorem memb_no {a b : Pol} {n : Int} (h1 : 1 ≤ n) (h2 : n ≤ 16) (h : ¬ rightsOf a.mem n = rightsOf b.mem n) : membS a b = false := by
  have h3 : ((List.range 16).all fun i => decide (rightsOf a.mem ((i : Int) + 1) = rightsOf b.mem ((i : Int) + 1))) = false := by
    rw [List.all_eq_false]
    exact ⟨(n - 1).toNat, List.mem_range.2 (by omega), by rw [show (((n - 1).toNat : Nat) : Int) + 1 = n by omega]; simpa using h⟩
  rw [membS, h3]; rfl
theorem memb_yes {a b : Pol} (h : ∀ m, 1 ≤ m → m ≤ 16 → rightsOf a.mem m = rightsOf b.mem m) : membS a b = (decide (a.epoch = b.epoch) && decide (a.founder = b.founder)) := by
  have h3 : ((List.range 16).all fun i => decide (rightsOf a.mem ((i : Int) + 1) = rightsOf b.mem ((i : Int) + 1))) = true := by
    rw [List.all_eq_true]
    intro i hi
    have := List.mem_range.1 hi
    exact decide_eq_true (h _ (by omega) (by omega))
  rw [membS, h3, Bool.true_and]
end Go.Proofs.YtmalblpdkpjbcaaGreat
