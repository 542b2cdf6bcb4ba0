import Derived.Test.YtanpinfhlbbjkaaGreatQClientStillReader
import Derived.Test.YtanpinfhlbbjkaaGreatQClientStillRing
set_option linter.unusedVariables false
set_option linter.unusedSimpArgs false
namespace Go.Ecal
open Go.RowKit
/-- A field of a struct that is told. -/
theorem r_field {P : Program} {E : Env} {w : World} {dst : Option Tmp} {ty t : TypeId} {pos : String} {aft : Array Edge} {gd : Option (Nat × Bool)} {x : Operand} {cs : List Value} {u : Value} {f : Nat} {fs : Array Field} {fd : Field} {ds : TypeDesc}
    (hx : ev E x = .agg cs.toArray) (ht : P.underlying t = some (.struct fs)) (hf : fs[f]? = some fd) (hd : P.underlying fd.type = some ds) (ho : oneB ds = true) (hu : cs[fd.offset]? = some u) :
    Gives P E w ⟨dst, .field t x f, ty, pos, aft, gd⟩ u w := by
  simp only [Gives, execOp, hx]
  cases ds <;> simp [oneB] at ho <;> simp [Instr.field, run_underlying ht, hf, asAgg, part, isAgg, run_underlying hd, hu]
end Go.Ecal
namespace Go.Ecal
open Go.RowKit
section
variable {α : Type} {τ : Rep α} {w : World} {I : Gh} {R : List HP} {e : TypeId} {v : Value} {al : List α} {xss : List (List Value)}
/-- A row of one's own whose cells are told. -/
def OwnY (e : TypeId) (τ : Rep α) (v : Value) (al : List α) (xss : List (List Value)) : HP := Sep [.fact ⟨fun I => All2 (τ.r I) xss al, fun h k => k.imp fun _ _ => τ.mono h⟩, Own e τ.sz v al.length xss.flatten]
theorem OwnY.of (S : Sat w I (OwnX e τ v al :: R)) : ∃ xss, All2 (τ.r I) xss al ∧ Sat w I (OwnY e τ v al xss :: R) := by
  obtain ⟨xss, S⟩ := S.unex
  obtain ⟨h, _⟩ := S.split.unfact
  exact ⟨xss, h, S⟩
theorem OwnY.to (S : Sat w I (OwnY e τ v al xss :: R)) : Sat w I (OwnX e τ v al :: R) := Sat.toex xss S
theorem OwnY.at (S : Sat w I R) (i : Nat) (hi : R[i]? = some (OwnY e τ v al xss)) (hz : 0 < τ.sz) {j : Nat} {cs : List Value} (hj : xss[j]? = some cs) : ElAt w v τ.sz j cs := by
  obtain ⟨h, S⟩ := (S.cons_front hi).split.unfact
  exact (S.wrow 0 rfl h.lens hz).el hj
theorem OwnY.row (S : Sat w I R) (i : Nat) (hi : R[i]? = some (OwnY e τ v al xss)) (hz : 0 < τ.sz) : XRow w v τ.sz al.length := by
  obtain ⟨h, S⟩ := (S.cons_front hi).split.unfact
  exact ⟨xss, S.wrow 0 rfl h.lens hz, h.len⟩
end
end Go.Ecal
namespace Go.Proofs.YtanpinfhlbbjkaaGreat
open Go.RowKit Go.Ecal
structure Chn where
  links : List (List UInt8)
  sums : List (List UInt8)
def ChainP (p s : Value) (c : Chn) : HP := .ex fun b => .ex fun lv => .ex fun mv => Sep [.prop (p = ptr b ∧ c.sums.length = c.links.length + 1 ∧ c.links.length ≤ 64 ∧ (∀ x ∈ c.sums, x.length = 32) ∧ ∀ x ∈ c.links, x.length ≤ 4096),
  Blk b 206 [s, lv, mv], OwnX 26 bytesR lv c.links, OwnX 26 bytesR mv c.sums]
section
variable {w : World} {I : Gh} {R : List HP} {p s : Value} {c : Chn}
theorem ChainP.opn (S : Sat w I (ChainP p s c :: R)) : ∃ b lv mv, p = ptr b ∧ c.sums.length = c.links.length + 1 ∧ c.links.length ≤ 64 ∧ (∀ x ∈ c.sums, x.length = 32) ∧ (∀ x ∈ c.links, x.length ≤ 4096) ∧
    Sat w I (Blk b 206 [s, lv, mv] :: OwnX 26 bytesR lv c.links :: OwnX 26 bytesR mv c.sums :: R) := by
  obtain ⟨b, S⟩ := S.unex; obtain ⟨lv, S⟩ := S.unex; obtain ⟨mv, S⟩ := S.unex
  obtain ⟨⟨h1, h2, h3, h4, h5⟩, S⟩ := S.split.unprop
  exact ⟨b, lv, mv, h1, h2, h3, h4, h5, S⟩
theorem ChainP.cls {b : Nat} {lv mv : Value} (h2 : c.sums.length = c.links.length + 1) (h3 : c.links.length ≤ 64) (h4 : ∀ x ∈ c.sums, x.length = 32) (h5 : ∀ x ∈ c.links, x.length ≤ 4096)
    (S : Sat w I (Blk b 206 [s, lv, mv] :: OwnX 26 bytesR lv c.links :: OwnX 26 bytesR mv c.sums :: R)) : Sat w I (ChainP (ptr b) s c :: R) :=
  Sat.toex b (Sat.toex lv (Sat.toex mv (Sat.join [_, _, _, _] (S.toprop ⟨rfl, h2, h3, h4, h5⟩))))
end
theorem Suite.one {w : World} {I : Gh} {R : List HP} {p : Value} {L : List Thing} (S : Sat w I (Suite p L :: R)) : p.oneCell' = true := by
  obtain ⟨b, S⟩ := S.unex; obtain ⟨lv, S⟩ := S.unex; obtain ⟨mb, S⟩ := S.unex; obtain ⟨K, S⟩ := S.unex
  obtain ⟨⟨h1, _⟩, S⟩ := S.split.unprop
  rw [h1]; rfl
abbrev uLocket : List UInt8 := [108, 111, 99, 107, 101, 116]
def chT (coll : Int) : Thing := tSum (uLocket ++ be6 coll)
def chNew (L : List Thing) (coll : Int) : Chn := ⟨[], [signOf 72 (onceN (chT coll) L : Int)]⟩
/-- The sum of all. -/
def Chn.head (c : Chn) : List UInt8 := c.sums.getD c.links.length []
def chE (c : Chn) (b : List UInt8) : Int := if b.length < 1 ∨ 4096 < b.length then 11 else if c.links.length = 64 then 33 else 0
def chNext (c : Chn) (b : List UInt8) : Thing := tSum (c.head ++ b)
def chApp (L : List Thing) (c : Chn) (b : List UInt8) : Chn := if chE c b = 0 then ⟨c.links ++ [b], c.sums ++ [signOf 72 (onceN (chNext c b) L : Int)]⟩ else c
def chL (L : List Thing) (c : Chn) (b : List UInt8) : List Thing := if chE c b = 0 then onceL (chNext c b) L else L
structure HeadT where
  index : Int
  sum : List UInt8
def atOk (c : Chn) (i : Int) : Bool := decide (0 ≤ i) && decide (i < c.sums.length)
def atV (c : Chn) (i : Int) : HeadT := if 0 ≤ i ∧ i < c.sums.length then ⟨i, c.sums.getD i.toNat []⟩ else ⟨0, []⟩
theorem atOk_in {c : Chn} {i : Int} (h : 0 ≤ i ∧ i < c.sums.length) : atOk c i = true := by simp [atOk]; omega
theorem atOk_out {c : Chn} {i : Int} (h : ¬ (0 ≤ i ∧ i < c.sums.length)) : atOk c i = false := by simp [atOk]; omega
theorem atV_in {c : Chn} {i : Int} {a : List UInt8} (h : 0 ≤ i ∧ i < c.sums.length) (ha : c.sums[i.toNat]? = some a) : atV c i = ⟨i, a⟩ := by rw [atV, if_pos h, List.getD, ha]; rfl
theorem atV_out {c : Chn} {i : Int} (h : ¬ (0 ≤ i ∧ i < c.sums.length)) : atV c i = ⟨0, []⟩ := if_neg h
/-- A head is held against a chain. -/
def chkE (c : Chn) (i : Int) (sum : List UInt8) : Int := if i < 0 then 12 else if atOk c i = false then 14 else if (atV c i).sum = sum then 0 else 24
end Go.Proofs.YtanpinfhlbbjkaaGreat

namespace Go.Proofs.YtanpinfhlbbjkaaGreat
open Go.RowKit Go.Ecal
def RingP (p : Value) (ks : List (List UInt8)) : HP := .ex fun b => .ex fun vs => Sep [.prop (p = ptr b ∧ ks.length = 17), .fact ⟨fun I => All2 (cellN I) vs ks, fun k h => h.imp fun _ _ => cellN.up k⟩, Blk b 252 vs]
theorem RingP.opn {w : World} {I : Gh} {R : List HP} {p : Value} {ks : List (List UInt8)} (S : Sat w I (RingP p ks :: R)) : ∃ b vs, p = ptr b ∧ ks.length = 17 ∧ All2 (cellN I) vs ks ∧ Sat w I (Blk b 252 vs :: R) := by
  obtain ⟨b, S⟩ := S.unex; obtain ⟨vs, S⟩ := S.unex
  obtain ⟨⟨h1, h2⟩, S⟩ := S.split.unprop
  obtain ⟨h3, S⟩ := S.unfact
  exact ⟨b, vs, h1, h2, h3, S⟩
theorem RingP.cls {w : World} {I : Gh} {R : List HP} {b : Nat} {vs : List Value} {ks : List (List UInt8)} (hk : ks.length = 17) (hA : All2 (cellN I) vs ks) (S : Sat w I (Blk b 252 vs :: R)) : Sat w I (RingP (ptr b) ks :: R) :=
  Sat.toex b (Sat.toex vs (Sat.join [_, _, _] ((S.tofact hA).toprop ⟨rfl, hk⟩)))
def keyAt (ks : List (List UInt8)) (e : Int) : List UInt8 := if 0 ≤ e ∧ e ≤ 16 then ks.getD e.toNat [] else []
def learnE (ks : List (List UInt8)) (e : Int) (k : List UInt8) : Int := if 1 ≤ e ∧ e ≤ 16 then (if k.length = 32 then (if (keyAt ks e).isEmpty then 0 else 31) else 11) else 12
def learnK (ks : List (List UInt8)) (e : Int) (k : List UInt8) : List (List UInt8) := if learnE ks e k = 0 then ks.set e.toNat k else ks
def ring0 (k : List UInt8) : List (List UInt8) := k :: List.replicate 16 []
theorem keyAt_get {ks : List (List UInt8)} {e : Int} (hk : ks.length = 17) (h : 0 ≤ e ∧ e ≤ 16) : ks[e.toNat]? = some (keyAt ks e) := by
  rw [keyAt, if_pos h, List.getElem?_eq_getElem (by omega)]; simp [List.getD, List.getElem?_eq_getElem (show e.toNat < ks.length by omega)]
theorem learnK_len {ks : List (List UInt8)} {e : Int} {k : List UInt8} : (learnK ks e k).length = ks.length := by unfold learnK; split <;> simp
end Go.Proofs.YtanpinfhlbbjkaaGreat
