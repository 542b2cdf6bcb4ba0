import Derived.Test.YtmalblpdkpjbcaaGreatQReplayReadersOpen
set_option linter.unusedVariables false
set_option linter.unusedSimpArgs false
namespace Go.Ecal
open Go.RowKit
section
variable {w w1 : World} {I : Gh} {l : List HP} {p0 p1 p2 p3 p4 p5 p6 p7 p8 p9 p10 : HP}
theorem Sat.dr0 (S : Sat w I (p0 :: l)) : Sat w I (l) := S.drop 0 rfl
theorem Sat.wr0 {b : Nat} {T : TypeId} {cs ds : List Value} (S : Sat w I (Blk b T cs :: l)) (h : Kept w w1 b) (ha : Arr w1 b T ds) : Sat w1 I (Blk b T ds :: l) := S.wrote 0 rfl h ha
theorem Sat.gr0 {base e sz n e' sz' n' : Nat} {v v' : Value} {xs ys : List Value} (S : Sat w I (Own e sz v n xs :: l)) (hg : w.grownBy w1 v.ownBlock) (ho : w1.ownsRow base e' sz' v' n' ys) (hA : v'.ownBlock = v.ownBlock ∨ v'.ownBlock = some w.heap.size) : Sat w1 I (Own e' sz' v' n' ys :: l) := S.grow 0 rfl hg ho hA
theorem Sat.gb0 {base e sz n : Nat} {v v' : Value} {xs : List Value} {m : List UInt8} (S : Sat w I (Own e sz v n xs :: l)) (hg : w.grownBy w1 v.ownBlock) (ho : w1.ownsRow base 5 1 v' m.length (m.map byt)) (hA : v'.ownBlock = v.ownBlock ∨ v'.ownBlock = some w.heap.size) : Sat w1 I (OwnB v' m :: l) := S.grow 0 rfl hg ho hA
theorem Sat.fz0 {e n : Nat} {v : Value} {xs : List Value} (S : Sat w I (Own e 1 v n xs :: l)) : ∃ J : Gh, I.le J ∧ Sat w J (l) ∧ Ro J v xs := S.frz 0 rfl
theorem Sat.fb0 {v : Value} {m : List UInt8} (S : Sat w I (OwnB v m :: l)) : ∃ J : Gh, I.le J ∧ Sat w J (l) ∧ RoB J v m := S.frz 0 rfl
theorem Sat.fx0 {α : Type} {τ : Rep α} {e : TypeId} {v : Value} {m : List α} (S : Sat w I (OwnX e τ v m :: l)) (hz : 0 < τ.sz) : ∃ J : Gh, I.le J ∧ Sat w J (l) ∧ RoX J v τ m := OwnX.frz S 0 rfl hz
theorem Sat.fk0 {b : Nat} {T : TypeId} {cs : List Value} (S : Sat w I (Blk b T cs :: l)) : ∃ J : Gh, I.le J ∧ Sat w J (l) ∧ ∀ w', J.le (gh w') → Arr w' b T cs := S.frzB 0 rfl
theorem Sat.ab0 {v : Value} {m n : List UInt8} (S : Sat w I (OwnB v m :: l)) (h : m = n) : Sat w I (OwnB v n :: l) := by subst h; exact S
theorem Sat.ax0 {α : Type} {τ : Rep α} {e : TypeId} {v : Value} {m n : List α} (S : Sat w I (OwnX e τ v m :: l)) (h : m = n) : Sat w I (OwnX e τ v n :: l) := by subst h; exact S
theorem Sat.ah0 {α : Type} (f : α → HP) {m n : α} (S : Sat w I (f m :: l)) (h : m = n) : Sat w I (f n :: l) := by subst h; exact S
theorem Sat.fr1 (S : Sat w I (p0 :: p1 :: l)) : Sat w I (p1 :: p0 :: l) := S.cons_front (i := 1) rfl
theorem Sat.dr1 (S : Sat w I (p0 :: p1 :: l)) : Sat w I (p0 :: l) := S.drop 1 rfl
theorem Sat.wr1 {b : Nat} {T : TypeId} {cs ds : List Value} (S : Sat w I (p0 :: Blk b T cs :: l)) (h : Kept w w1 b) (ha : Arr w1 b T ds) : Sat w1 I (p0 :: Blk b T ds :: l) := S.wrote 1 rfl h ha
theorem Sat.gb1 {base e sz n : Nat} {v v' : Value} {xs : List Value} {m : List UInt8} (S : Sat w I (p0 :: Own e sz v n xs :: l)) (hg : w.grownBy w1 v.ownBlock) (ho : w1.ownsRow base 5 1 v' m.length (m.map byt)) (hA : v'.ownBlock = v.ownBlock ∨ v'.ownBlock = some w.heap.size) : Sat w1 I (p0 :: OwnB v' m :: l) := S.grow 1 rfl hg ho hA
theorem Sat.fz1 {e n : Nat} {v : Value} {xs : List Value} (S : Sat w I (p0 :: Own e 1 v n xs :: l)) : ∃ J : Gh, I.le J ∧ Sat w J (p0 :: l) ∧ Ro J v xs := S.frz 1 rfl
theorem Sat.fb1 {v : Value} {m : List UInt8} (S : Sat w I (p0 :: OwnB v m :: l)) : ∃ J : Gh, I.le J ∧ Sat w J (p0 :: l) ∧ RoB J v m := S.frz 1 rfl
theorem Sat.fx1 {α : Type} {τ : Rep α} {e : TypeId} {v : Value} {m : List α} (S : Sat w I (p0 :: OwnX e τ v m :: l)) (hz : 0 < τ.sz) : ∃ J : Gh, I.le J ∧ Sat w J (p0 :: l) ∧ RoX J v τ m := OwnX.frz S 1 rfl hz
theorem Sat.ab1 {v : Value} {m n : List UInt8} (S : Sat w I (p0 :: OwnB v m :: l)) (h : m = n) : Sat w I (p0 :: OwnB v n :: l) := by subst h; exact S
theorem Sat.ah1 {α : Type} (f : α → HP) {m n : α} (S : Sat w I (p0 :: f m :: l)) (h : m = n) : Sat w I (p0 :: f n :: l) := by subst h; exact S
theorem Sat.fr2 (S : Sat w I (p0 :: p1 :: p2 :: l)) : Sat w I (p2 :: p0 :: p1 :: l) := S.cons_front (i := 2) rfl
theorem Sat.dr2 (S : Sat w I (p0 :: p1 :: p2 :: l)) : Sat w I (p0 :: p1 :: l) := S.drop 2 rfl
theorem Sat.wr2 {b : Nat} {T : TypeId} {cs ds : List Value} (S : Sat w I (p0 :: p1 :: Blk b T cs :: l)) (h : Kept w w1 b) (ha : Arr w1 b T ds) : Sat w1 I (p0 :: p1 :: Blk b T ds :: l) := S.wrote 2 rfl h ha
theorem Sat.gr2 {base e sz n e' sz' n' : Nat} {v v' : Value} {xs ys : List Value} (S : Sat w I (p0 :: p1 :: Own e sz v n xs :: l)) (hg : w.grownBy w1 v.ownBlock) (ho : w1.ownsRow base e' sz' v' n' ys) (hA : v'.ownBlock = v.ownBlock ∨ v'.ownBlock = some w.heap.size) : Sat w1 I (p0 :: p1 :: Own e' sz' v' n' ys :: l) := S.grow 2 rfl hg ho hA
theorem Sat.fx2 {α : Type} {τ : Rep α} {e : TypeId} {v : Value} {m : List α} (S : Sat w I (p0 :: p1 :: OwnX e τ v m :: l)) (hz : 0 < τ.sz) : ∃ J : Gh, I.le J ∧ Sat w J (p0 :: p1 :: l) ∧ RoX J v τ m := OwnX.frz S 2 rfl hz
theorem Sat.ah2 {α : Type} (f : α → HP) {m n : α} (S : Sat w I (p0 :: p1 :: f m :: l)) (h : m = n) : Sat w I (p0 :: p1 :: f n :: l) := by subst h; exact S
theorem Sat.fr3 (S : Sat w I (p0 :: p1 :: p2 :: p3 :: l)) : Sat w I (p3 :: p0 :: p1 :: p2 :: l) := S.cons_front (i := 3) rfl
theorem Sat.dr3 (S : Sat w I (p0 :: p1 :: p2 :: p3 :: l)) : Sat w I (p0 :: p1 :: p2 :: l) := S.drop 3 rfl
theorem Sat.wr3 {b : Nat} {T : TypeId} {cs ds : List Value} (S : Sat w I (p0 :: p1 :: p2 :: Blk b T cs :: l)) (h : Kept w w1 b) (ha : Arr w1 b T ds) : Sat w1 I (p0 :: p1 :: p2 :: Blk b T ds :: l) := S.wrote 3 rfl h ha
theorem Sat.gr3 {base e sz n e' sz' n' : Nat} {v v' : Value} {xs ys : List Value} (S : Sat w I (p0 :: p1 :: p2 :: Own e sz v n xs :: l)) (hg : w.grownBy w1 v.ownBlock) (ho : w1.ownsRow base e' sz' v' n' ys) (hA : v'.ownBlock = v.ownBlock ∨ v'.ownBlock = some w.heap.size) : Sat w1 I (p0 :: p1 :: p2 :: Own e' sz' v' n' ys :: l) := S.grow 3 rfl hg ho hA
theorem Sat.fb3 {v : Value} {m : List UInt8} (S : Sat w I (p0 :: p1 :: p2 :: OwnB v m :: l)) : ∃ J : Gh, I.le J ∧ Sat w J (p0 :: p1 :: p2 :: l) ∧ RoB J v m := S.frz 3 rfl
theorem Sat.ah3 {α : Type} (f : α → HP) {m n : α} (S : Sat w I (p0 :: p1 :: p2 :: f m :: l)) (h : m = n) : Sat w I (p0 :: p1 :: p2 :: f n :: l) := by subst h; exact S
theorem Sat.fr4 (S : Sat w I (p0 :: p1 :: p2 :: p3 :: p4 :: l)) : Sat w I (p4 :: p0 :: p1 :: p2 :: p3 :: l) := S.cons_front (i := 4) rfl
theorem Sat.wr4 {b : Nat} {T : TypeId} {cs ds : List Value} (S : Sat w I (p0 :: p1 :: p2 :: p3 :: Blk b T cs :: l)) (h : Kept w w1 b) (ha : Arr w1 b T ds) : Sat w1 I (p0 :: p1 :: p2 :: p3 :: Blk b T ds :: l) := S.wrote 4 rfl h ha
theorem Sat.fr5 (S : Sat w I (p0 :: p1 :: p2 :: p3 :: p4 :: p5 :: l)) : Sat w I (p5 :: p0 :: p1 :: p2 :: p3 :: p4 :: l) := S.cons_front (i := 5) rfl
theorem Sat.wr5 {b : Nat} {T : TypeId} {cs ds : List Value} (S : Sat w I (p0 :: p1 :: p2 :: p3 :: p4 :: Blk b T cs :: l)) (h : Kept w w1 b) (ha : Arr w1 b T ds) : Sat w1 I (p0 :: p1 :: p2 :: p3 :: p4 :: Blk b T ds :: l) := S.wrote 5 rfl h ha
theorem Sat.fr6 (S : Sat w I (p0 :: p1 :: p2 :: p3 :: p4 :: p5 :: p6 :: l)) : Sat w I (p6 :: p0 :: p1 :: p2 :: p3 :: p4 :: p5 :: l) := S.cons_front (i := 6) rfl
theorem Sat.fr7 (S : Sat w I (p0 :: p1 :: p2 :: p3 :: p4 :: p5 :: p6 :: p7 :: l)) : Sat w I (p7 :: p0 :: p1 :: p2 :: p3 :: p4 :: p5 :: p6 :: l) := S.cons_front (i := 7) rfl
end
end Go.Ecal
