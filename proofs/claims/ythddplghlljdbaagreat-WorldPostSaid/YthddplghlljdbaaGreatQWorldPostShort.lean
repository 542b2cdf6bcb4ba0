import Derived.Deep.Slices
import Derived.Deep.SlicePairs
import Derived.Test.YthddplghlljdbaaGreatQWorldPostRep
set_option linter.unusedVariables false
set_option linter.unusedSimpArgs false
namespace Go.Ecal
open Go.RowKit Go.ChangeShapes Go.WideShapes
/-- Cells of type t that were handed in are some thing's. -/
def Opn {α:Type} (P:Program) (t:TypeId) (τ:Rep α):Prop:=
 ∀{H:Type} (enc:TypeId×Value→H) (w:World) (spare:Nat→Bool) (held:Bool) (fuel:Nat) (cs:List Value) (x:DataW H×List MemPlace),DataW.trod enc P w 0 spare held fuel t cs=some x→∃a,τ.r (gh w) cs a
section
variable {P : Program} {t e : TypeId} {α : Type} {τ : Rep α}
theorem Opn.int (ht:P.underlying t=some (.int .i64)):Opn P t intR:=fun enc w sp hd fuel cs x h=>by
 obtain ⟨n,rfl,_,hw⟩:=DataW.trod_int ht h
 exact ⟨n,rfl,rng_i64 hw⟩
theorem Opn.bytes (ht : P.underlying t = some (.slice e)) (he : P.underlying e = some (.int .u8)) (hc : P.cellsOf e = 1) : Opn P t bytesR := fun enc w sp hd fuel cs x h => by
  rcases open_ints ht he hc h with ⟨rfl, _⟩ | ⟨a, l, c, zs, rfl, _, hl, hm, hz, _, hcell, hwz⟩
  · exact ⟨[], _, rfl, rfl, Ro.nil⟩
  · obtain ⟨b, hb⟩ : ∃ b, Bs w (.slice (some a) l c) b := by
      refine ⟨(ofInts zs).take l, some a, c, ?_, ?_, by simpa [maxLen] using hm, (fun h => by cases h), fun hp => ?_⟩
      · have : l ≤ zs.length := by rw [hz]; split <;> omega
        have : ((ofInts zs).take l).length = l := by simp [ofInts]; omega
        rw [List.length_map, this]
      · have : l ≤ zs.length := by rw [hz]; split <;> omega
        simp [ofInts]; omega
      · have hle : l ≤ zs.length := by rw [hz]; split <;> omega
        have hlen : ((ofInts zs).take l).length = l := by simp [ofInts]; omega
        rw [List.length_map, hlen] at hp
        have h0 := hcell 0 (by omega)
        have hs : a.spot = none := World.cell?_spot (by simpa [Addr.add] using h0)
        obtain ⟨ab, ao, av⟩ := a
        simp only at hs
        subst hs
        refine ⟨ab, ao, rfl, fun j hj => ?_⟩
        rw [List.length_map, hlen] at hj
        have := hcell j (by omega)
        rw [Addr.add_mid] at this
        rw [this, ← ofInts_get hwz j (by omega), List.map_take, List.getElem?_take, if_pos hj]
    exact ⟨b, _, rfl, rfl, Row.ro hb⟩
theorem Opn.list (ht : P.underlying t = some (.slice e)) (hc : P.cellsOf e = τ.sz) (hz : 0 < τ.sz) (ho : Opn P e τ) : Opn P t (listR τ) := fun enc w sp hd fuel cs x h => by
  rcases Go.Deep.open_slice ht h with ⟨rfl, _⟩ | ⟨a, len, cap, m, n, D, Pl, rfl, _, hl, hm, hmm, rfl, hx⟩
  · exact ⟨[], _, rfl, rfl, RoX.nil⟩
  have hlm : len ≤ m := by rw [hmm]; split <;> omega
  by_cases h0 : len = 0
  · subst h0
    refine ⟨[], _, rfl, rfl, [], fun w' hw => ⟨some a, cap, rfl, hl, by simpa [maxLen] using hm, (fun h => by cases h), fun h => absurd h (by simp)⟩, .nil⟩
  have each : ∀ i, i < len → ∃ q : List Value, ∃ b : α, w.cells? 0 (a.add (i * τ.sz)) τ.sz = some q ∧ τ.r (gh w) q b := fun i hi => by
    obtain ⟨cs', h1, h2⟩ := hx i (by omega)
    obtain ⟨b, hb⟩ := ho enc w sp hd n cs' _ h2
    exact ⟨cs', b, by rw [← hc]; exact h1, hb⟩
  obtain ⟨q, hq⟩ := Go.Deep.choose_lt (p := fun i (q : List Value) => ∃ b : α, w.cells? 0 (a.add (i * τ.sz)) τ.sz = some q ∧ τ.r (gh w) q b) each
  have hne : Nonempty α := let ⟨b, _⟩ := hq 0 (by omega); ⟨b⟩
  obtain ⟨f, hf⟩ := (haveI : Inhabited α := Classical.inhabited_of_nonempty hne; Go.Deep.choose_lt (p := fun i (b : α) => w.cells? 0 (a.add (i * τ.sz)) τ.sz = some (q i) ∧ τ.r (gh w) (q i) b) hq)
  have hs : a.spot = none := by
    obtain ⟨_, h2, h3⟩ := World.cells?_some (hf 0 (by omega)).1
    have h4 := h3 0 hz
    rw [List.getElem?_eq_getElem (by rw [h2]; exact hz)] at h4
    exact World.cell?_spot (by simpa [Addr.add] using h4)
  obtain ⟨ab, ao, av⟩ := a
  simp only at hs
  subst hs
  refine ⟨(List.range len).map f, _, rfl, rfl, (List.range len).map q, fun w' hw => ?_, ?_⟩
  · have hrow : WRow w (.slice (some ⟨ab, ao, none⟩) len cap) τ.sz ((List.range len).map q) := by
      refine ⟨_, cap, by simp, by simpa using hl, by simpa [maxLen] using hm, (fun h => by cases h), fun _ => ⟨ab, ao, rfl, fun j cs hj i u hu => ?_⟩⟩
      have hjl : j < len := by have := (List.getElem?_eq_some_iff.1 hj).1; simpa using this
      rw [List.getElem?_map, List.getElem?_range hjl] at hj
      simp only [Option.map_some, Option.some.injEq] at hj
      subst hj
      obtain ⟨_, h2, h3⟩ := World.cells?_some (hf j hjl).1
      have hi : i < τ.sz := by rw [← h2]; exact (List.getElem?_eq_some_iff.1 hu).1
      have := h3 i hi
      rw [Addr.add_mid, Addr.add_mid] at this
      rw [this]; exact hu
    exact hrow.below hw.1
  · have : ∀ l : List Nat, (∀ i ∈ l, i < len) → All2 (τ.r (gh w)) (l.map q) (l.map f) := by
      intro l
      induction l with
      | nil => intro _; exact .nil
      | cons i r ih => intro hl; exact .cons (hf i (hl i (by simp))).2 (ih fun j hj => hl j (by simp [hj]))
    exact this _ fun i hi => List.mem_range.1 hi
/-- A struct's field. -/
theorem Opn.field {H:Type} {enc:TypeId×Value→H} {w:World} {spare:Nat→Bool} {held:Bool} {n:Nat} {f:TypeId} {cs:List Value} {xs:List (DataW H×List MemPlace)} {i:Nat} (ho:Opn P f τ) (hi:i<xs.length) (h:DataW.trod enc P w 0 spare held n f cs=xs[i]?):∃a,τ.r (gh w) cs a:=by
 rw [List.getElem?_eq_getElem hi] at h
 exact ho enc w spare held n cs _ h
end
theorem cons_of_len {α:Type} {l:List α} {n:Nat} (h:l.length=n+1):∃a t,l=a::t∧t.length=n:=by
 cases l with
 | nil=>simp at h
 | cons a t=>exact ⟨a,t,rfl,by simpa using h⟩
theorem Opn.part {P : Program} {H : Type} {enc : TypeId × Value → H} {w : World} {spare : Nat → Bool} {held : Bool} {n i T off k : Nat} {fs : Array Field} {f : Field} {cs ds : List Value} {xs : List (DataW H × List MemPlace)}
    (hf : ∀ (i : Nat) (f : Field), fs[i]? = some f → DataW.trod enc P w 0 spare held n f.type ((cs.drop f.offset).take (P.cellsOf f.type)) = xs[i]?) (hi : fs[i]? = some f) (ht : f.type = T) (ho : f.offset = off) (hc : P.cellsOf T = k) (hcs : (cs.drop off).take k = ds) : DataW.trod enc P w 0 spare held n T ds = xs[i]? := by
  have := hf i f hi
  rw [ht, ho, hc, hcs] at this
  exact this
end Go.Ecal

namespace Go.Ecal
open Go.RowKit
section
variable {w w1 : World} {I : Gh} {l : List HP} {p0 p1 p2 p3 p4 p5 p6 p7 p8 p9 p10 : HP}
theorem Sat.dr0 (S:Sat w I (p0::l)):Sat w I (l):=S.drop 0 rfl
theorem Sat.wr0 {b:Nat} {T:TypeId} {cs ds:List Value} (S:Sat w I (Blk b T cs::l)) (h:Kept w w1 b) (ha:Arr w1 b T ds):Sat w1 I (Blk b T ds::l):=S.wrote 0 rfl h ha
theorem Sat.gr0 {base e sz n e' sz' n':Nat} {v v':Value} {xs ys:List Value} (S:Sat w I (Own e sz v n xs::l)) (hg:w.grownBy w1 v.ownBlock) (ho:w1.ownsRow base e' sz' v' n' ys) (hA:v'.ownBlock=v.ownBlock∨v'.ownBlock=some w.heap.size):Sat w1 I (Own e' sz' v' n' ys::l):=S.grow 0 rfl hg ho hA
theorem Sat.gb0 {base e sz n:Nat} {v v':Value} {xs:List Value} {m:List UInt8} (S:Sat w I (Own e sz v n xs::l)) (hg:w.grownBy w1 v.ownBlock) (ho:w1.ownsRow base 5 1 v' m.length (m.map byt)) (hA:v'.ownBlock=v.ownBlock∨v'.ownBlock=some w.heap.size):Sat w1 I (OwnB v' m::l):=S.grow 0 rfl hg ho hA
theorem Sat.fz0 {e n:Nat} {v:Value} {xs:List Value} (S:Sat w I (Own e 1 v n xs::l)):∃J:Gh,I.le J∧Sat w J (l)∧Ro J v xs:=S.frz 0 rfl
theorem Sat.fb0 {v:Value} {m:List UInt8} (S:Sat w I (OwnB v m::l)):∃J:Gh,I.le J∧Sat w J (l)∧RoB J v m:=S.frz 0 rfl
theorem Sat.fx0 {α:Type} {τ:Rep α} {e:TypeId} {v:Value} {m:List α} (S:Sat w I (OwnX e τ v m::l)) (hz:0<τ.sz):∃J:Gh,I.le J∧Sat w J (l)∧RoX J v τ m:=OwnX.frz S 0 rfl hz
theorem Sat.fk0 {b:Nat} {T:TypeId} {cs:List Value} (S:Sat w I (Blk b T cs::l)):∃J:Gh,I.le J∧Sat w J (l)∧∀w',J.le (gh w')→Arr w' b T cs:=S.frzB 0 rfl
theorem Sat.ab0 {v:Value} {m n:List UInt8} (S:Sat w I (OwnB v m::l)) (h:m=n):Sat w I (OwnB v n::l):=by subst h;exact S
theorem Sat.ax0 {α:Type} {τ:Rep α} {e:TypeId} {v:Value} {m n:List α} (S:Sat w I (OwnX e τ v m::l)) (h:m=n):Sat w I (OwnX e τ v n::l):=by subst h;exact S
theorem Sat.ah0 {α:Type} (f:α→HP) {m n:α} (S:Sat w I (f m::l)) (h:m=n):Sat w I (f n::l):=by subst h;exact S
theorem Sat.fr1 (S:Sat w I (p0::p1::l)):Sat w I (p1::p0::l):=S.cons_front (i:=1) rfl
theorem Sat.dr1 (S:Sat w I (p0::p1::l)):Sat w I (p0::l):=S.drop 1 rfl
theorem Sat.wr1 {b:Nat} {T:TypeId} {cs ds:List Value} (S:Sat w I (p0::Blk b T cs::l)) (h:Kept w w1 b) (ha:Arr w1 b T ds):Sat w1 I (p0::Blk b T ds::l):=S.wrote 1 rfl h ha
theorem Sat.gb1 {base e sz n:Nat} {v v':Value} {xs:List Value} {m:List UInt8} (S:Sat w I (p0::Own e sz v n xs::l)) (hg:w.grownBy w1 v.ownBlock) (ho:w1.ownsRow base 5 1 v' m.length (m.map byt)) (hA:v'.ownBlock=v.ownBlock∨v'.ownBlock=some w.heap.size):Sat w1 I (p0::OwnB v' m::l):=S.grow 1 rfl hg ho hA
theorem Sat.fz1 {e n:Nat} {v:Value} {xs:List Value} (S:Sat w I (p0::Own e 1 v n xs::l)):∃J:Gh,I.le J∧Sat w J (p0::l)∧Ro J v xs:=S.frz 1 rfl
theorem Sat.fb1 {v:Value} {m:List UInt8} (S:Sat w I (p0::OwnB v m::l)):∃J:Gh,I.le J∧Sat w J (p0::l)∧RoB J v m:=S.frz 1 rfl
theorem Sat.fx1 {α:Type} {τ:Rep α} {e:TypeId} {v:Value} {m:List α} (S:Sat w I (p0::OwnX e τ v m::l)) (hz:0<τ.sz):∃J:Gh,I.le J∧Sat w J (p0::l)∧RoX J v τ m:=OwnX.frz S 1 rfl hz
theorem Sat.ab1 {v:Value} {m n:List UInt8} (S:Sat w I (p0::OwnB v m::l)) (h:m=n):Sat w I (p0::OwnB v n::l):=by subst h;exact S
theorem Sat.ax1 {α:Type} {τ:Rep α} {e:TypeId} {v:Value} {m n:List α} (S:Sat w I (p0::OwnX e τ v m::l)) (h:m=n):Sat w I (p0::OwnX e τ v n::l):=by subst h;exact S
theorem Sat.ah1 {α:Type} (f:α→HP) {m n:α} (S:Sat w I (p0::f m::l)) (h:m=n):Sat w I (p0::f n::l):=by subst h;exact S
theorem Sat.fr2 (S:Sat w I (p0::p1::p2::l)):Sat w I (p2::p0::p1::l):=S.cons_front (i:=2) rfl
theorem Sat.dr2 (S:Sat w I (p0::p1::p2::l)):Sat w I (p0::p1::l):=S.drop 2 rfl
theorem Sat.wr2 {b:Nat} {T:TypeId} {cs ds:List Value} (S:Sat w I (p0::p1::Blk b T cs::l)) (h:Kept w w1 b) (ha:Arr w1 b T ds):Sat w1 I (p0::p1::Blk b T ds::l):=S.wrote 2 rfl h ha
theorem Sat.gr2 {base e sz n e' sz' n':Nat} {v v':Value} {xs ys:List Value} (S:Sat w I (p0::p1::Own e sz v n xs::l)) (hg:w.grownBy w1 v.ownBlock) (ho:w1.ownsRow base e' sz' v' n' ys) (hA:v'.ownBlock=v.ownBlock∨v'.ownBlock=some w.heap.size):Sat w1 I (p0::p1::Own e' sz' v' n' ys::l):=S.grow 2 rfl hg ho hA
theorem Sat.fb2 {v:Value} {m:List UInt8} (S:Sat w I (p0::p1::OwnB v m::l)):∃J:Gh,I.le J∧Sat w J (p0::p1::l)∧RoB J v m:=S.frz 2 rfl
theorem Sat.fx2 {α:Type} {τ:Rep α} {e:TypeId} {v:Value} {m:List α} (S:Sat w I (p0::p1::OwnX e τ v m::l)) (hz:0<τ.sz):∃J:Gh,I.le J∧Sat w J (p0::p1::l)∧RoX J v τ m:=OwnX.frz S 2 rfl hz
theorem Sat.ax2 {α:Type} {τ:Rep α} {e:TypeId} {v:Value} {m n:List α} (S:Sat w I (p0::p1::OwnX e τ v m::l)) (h:m=n):Sat w I (p0::p1::OwnX e τ v n::l):=by subst h;exact S
theorem Sat.ah2 {α:Type} (f:α→HP) {m n:α} (S:Sat w I (p0::p1::f m::l)) (h:m=n):Sat w I (p0::p1::f n::l):=by subst h;exact S
theorem Sat.fr3 (S:Sat w I (p0::p1::p2::p3::l)):Sat w I (p3::p0::p1::p2::l):=S.cons_front (i:=3) rfl
theorem Sat.dr3 (S:Sat w I (p0::p1::p2::p3::l)):Sat w I (p0::p1::p2::l):=S.drop 3 rfl
theorem Sat.wr3 {b:Nat} {T:TypeId} {cs ds:List Value} (S:Sat w I (p0::p1::p2::Blk b T cs::l)) (h:Kept w w1 b) (ha:Arr w1 b T ds):Sat w1 I (p0::p1::p2::Blk b T ds::l):=S.wrote 3 rfl h ha
theorem Sat.gr3 {base e sz n e' sz' n':Nat} {v v':Value} {xs ys:List Value} (S:Sat w I (p0::p1::p2::Own e sz v n xs::l)) (hg:w.grownBy w1 v.ownBlock) (ho:w1.ownsRow base e' sz' v' n' ys) (hA:v'.ownBlock=v.ownBlock∨v'.ownBlock=some w.heap.size):Sat w1 I (p0::p1::p2::Own e' sz' v' n' ys::l):=S.grow 3 rfl hg ho hA
theorem Sat.fb3 {v:Value} {m:List UInt8} (S:Sat w I (p0::p1::p2::OwnB v m::l)):∃J:Gh,I.le J∧Sat w J (p0::p1::p2::l)∧RoB J v m:=S.frz 3 rfl
theorem Sat.fx3 {α:Type} {τ:Rep α} {e:TypeId} {v:Value} {m:List α} (S:Sat w I (p0::p1::p2::OwnX e τ v m::l)) (hz:0<τ.sz):∃J:Gh,I.le J∧Sat w J (p0::p1::p2::l)∧RoX J v τ m:=OwnX.frz S 3 rfl hz
theorem Sat.ax3 {α:Type} {τ:Rep α} {e:TypeId} {v:Value} {m n:List α} (S:Sat w I (p0::p1::p2::OwnX e τ v m::l)) (h:m=n):Sat w I (p0::p1::p2::OwnX e τ v n::l):=by subst h;exact S
theorem Sat.ah3 {α:Type} (f:α→HP) {m n:α} (S:Sat w I (p0::p1::p2::f m::l)) (h:m=n):Sat w I (p0::p1::p2::f n::l):=by subst h;exact S
theorem Sat.fr4 (S:Sat w I (p0::p1::p2::p3::p4::l)):Sat w I (p4::p0::p1::p2::p3::l):=S.cons_front (i:=4) rfl
theorem Sat.wr4 {b:Nat} {T:TypeId} {cs ds:List Value} (S:Sat w I (p0::p1::p2::p3::Blk b T cs::l)) (h:Kept w w1 b) (ha:Arr w1 b T ds):Sat w1 I (p0::p1::p2::p3::Blk b T ds::l):=S.wrote 4 rfl h ha
theorem Sat.ax4 {α:Type} {τ:Rep α} {e:TypeId} {v:Value} {m n:List α} (S:Sat w I (p0::p1::p2::p3::OwnX e τ v m::l)) (h:m=n):Sat w I (p0::p1::p2::p3::OwnX e τ v n::l):=by subst h;exact S
theorem Sat.ah4 {α:Type} (f:α→HP) {m n:α} (S:Sat w I (p0::p1::p2::p3::f m::l)) (h:m=n):Sat w I (p0::p1::p2::p3::f n::l):=by subst h;exact S
theorem Sat.fr5 (S:Sat w I (p0::p1::p2::p3::p4::p5::l)):Sat w I (p5::p0::p1::p2::p3::p4::l):=S.cons_front (i:=5) rfl
theorem Sat.wr5 {b:Nat} {T:TypeId} {cs ds:List Value} (S:Sat w I (p0::p1::p2::p3::p4::Blk b T cs::l)) (h:Kept w w1 b) (ha:Arr w1 b T ds):Sat w1 I (p0::p1::p2::p3::p4::Blk b T ds::l):=S.wrote 5 rfl h ha
theorem Sat.fx5 {α:Type} {τ:Rep α} {e:TypeId} {v:Value} {m:List α} (S:Sat w I (p0::p1::p2::p3::p4::OwnX e τ v m::l)) (hz:0<τ.sz):∃J:Gh,I.le J∧Sat w J (p0::p1::p2::p3::p4::l)∧RoX J v τ m:=OwnX.frz S 5 rfl hz
theorem Sat.ax5 {α:Type} {τ:Rep α} {e:TypeId} {v:Value} {m n:List α} (S:Sat w I (p0::p1::p2::p3::p4::OwnX e τ v m::l)) (h:m=n):Sat w I (p0::p1::p2::p3::p4::OwnX e τ v n::l):=by subst h;exact S
theorem Sat.ah5 {α:Type} (f:α→HP) {m n:α} (S:Sat w I (p0::p1::p2::p3::p4::f m::l)) (h:m=n):Sat w I (p0::p1::p2::p3::p4::f n::l):=by subst h;exact S
theorem Sat.fr6 (S:Sat w I (p0::p1::p2::p3::p4::p5::p6::l)):Sat w I (p6::p0::p1::p2::p3::p4::p5::l):=S.cons_front (i:=6) rfl
theorem Sat.wr6 {b:Nat} {T:TypeId} {cs ds:List Value} (S:Sat w I (p0::p1::p2::p3::p4::p5::Blk b T cs::l)) (h:Kept w w1 b) (ha:Arr w1 b T ds):Sat w1 I (p0::p1::p2::p3::p4::p5::Blk b T ds::l):=S.wrote 6 rfl h ha
theorem Sat.fr7 (S:Sat w I (p0::p1::p2::p3::p4::p5::p6::p7::l)):Sat w I (p7::p0::p1::p2::p3::p4::p5::p6::l):=S.cons_front (i:=7) rfl
theorem Sat.wr7 {b:Nat} {T:TypeId} {cs ds:List Value} (S:Sat w I (p0::p1::p2::p3::p4::p5::p6::Blk b T cs::l)) (h:Kept w w1 b) (ha:Arr w1 b T ds):Sat w1 I (p0::p1::p2::p3::p4::p5::p6::Blk b T ds::l):=S.wrote 7 rfl h ha
theorem Sat.fr8 (S:Sat w I (p0::p1::p2::p3::p4::p5::p6::p7::p8::l)):Sat w I (p8::p0::p1::p2::p3::p4::p5::p6::p7::l):=S.cons_front (i:=8) rfl
theorem Sat.fr9 (S:Sat w I (p0::p1::p2::p3::p4::p5::p6::p7::p8::p9::l)):Sat w I (p9::p0::p1::p2::p3::p4::p5::p6::p7::p8::l):=S.cons_front (i:=9) rfl
end
end Go.Ecal

namespace Go.Ecal
open Go.RowKit
section
variable {P : Program} {N : Nat} {Q : Exit → Env → World → Prop} {E : Env} {w w' : World} {ops : Array Oper} {L : List Oper}
variable {d : Nat} {op : Op} {ty : TypeId} {pos : String} {aft : Array Edge} {dst : Option Tmp} {gd : Option (Nat × Bool)}
variable {t t2 T e : TypeId} {x y : Operand} {b : Nat} {cs : List Value} {j : Nat} {tt bb : Bool}
theorem lT {I J K:Gh} (h:I.le J) (k:J.le K):I.le K:=Gh.le_trans h k
class IsF (P:Program) (f:FuncId):Prop where
 h:∃fn,P.funcs[f]?=some fn∧fn.body.isNone=false∧(fn.name == "runtime.NumGoroutine")=false
theorem eR {f : FuncId} {args : Array Operand} {ats : Array TypeId} {R : Value → World → Prop} {l : List Value} (hd : Nat.blt d N = true) (hF : IsF P f)
    (ha : args.toList.map (ev E) = l) (hc : Ret P f l w R) (h : ∀ v w', R v w' → EL P N ops Q L (upd E d v) w') :
    EL P N ops Q (⟨some d, .call { callee := .value (.func f), args, argTypes := ats }, ty, pos, aft, none⟩ :: L) E w := by
  obtain ⟨fn, h1, h2, h3⟩ := hF.h
  exact EL_ret l hd h1 h2 h3 ha hc h
theorem eG {f : FuncId} {args : Array Operand} {ats : Array TypeId} {R : Value → World → Prop} {l : List Value} (e : Nat) (hdst : (ops[j]?).bind (·.dst) = some e) (he : E e = .bool bb) (heN : Nat.blt e N = true) (hb' : (bb == tt) = true) (hd : Nat.blt d N = true) (hF : IsF P f)
    (ha : args.toList.map (ev E) = l) (hc : Ret P f l w R) (h : ∀ v w', R v w' → EL P N ops Q L (upd E d v) w') :
    EL P N ops Q (⟨some d, .call { callee := .value (.func f), args, argTypes := ats }, ty, pos, aft, some (j, tt)⟩ :: L) E w := by
  obtain ⟨fn, h1, h2, h3⟩ := hF.h
  exact EL_gret e hdst he heN hb' l hd h1 h2 h3 ha hc h
theorem vl (v:Value) (hd:Nat.blt d N=true) (hr:Gives P E w ⟨some d,op,ty,pos,aft,none⟩ v w) (h:EL P N ops Q L (upd E d v) w):EL P N ops Q (⟨some d,op,ty,pos,aft,none⟩::L) E w:=EL_val v w hd hr h
theorem vA (v:Value) (hd:Nat.blt d N=true) (hx:ev E x=v) (h:EL P N ops Q L (upd E d v) w):EL P N ops Q (⟨some d,.assign x,ty,pos,aft,none⟩::L) E w:=EL_val v w hd (r_assign hx) h
theorem vL (v:Value) {i:Nat} {ds:TypeDesc} (hd:Nat.blt d N=true) (hx:ev E x=ptr b i) (hA:Arr w b T cs) (hu:cs[i]?=some v) (ht:P.underlying t=some ds) (h1:oneB ds=true) (h:EL P N ops Q L (upd E d v) w):EL P N ops Q (⟨some d,.load t x,ty,pos,aft,none⟩::L) E w:=EL_val v w hd (r_loadA hx hA hu ht h1) h
theorem gl (e:Nat) (hdst:(ops[j]?).bind (·.dst)=some e) (he:E e=.bool bb) (heN:Nat.blt e N=true) (hb:(bb == tt)=true) (v:Value) (hd:Nat.blt d N=true) (hr:Gives P E w ⟨some d,op,ty,pos,aft,some (j,tt)⟩ v w) (h:EL P N ops Q L (upd E d v) w):EL P N ops Q (⟨some d,op,ty,pos,aft,some (j,tt)⟩::L) E w:=EL_gval e hdst he heN hb v w hd hr h
theorem fP (o : Nat) {f q : Nat} {fs : Array Field} (hx : ev E x = ptr b o) (ht : P.underlying t = some (.struct fs)) (hf : ((fs[f]?).bind fun fd => (P.info? fd.type).map fun i => (i.size, o + fd.offset)) = some (1, q)) :
    Gives P E w ⟨dst, .fieldAddr t x f, ty, pos, aft, gd⟩ (ptr b q) w := by
  obtain ⟨fd, h1, h2⟩ := Option.bind_eq_some_iff.1 hf
  obtain ⟨i, h3, h4⟩ := Option.map_eq_some_iff.1 h2
  injection h4 with h5 h6
  exact r_fieldP (s := 1) hx ht h1 (by rw [h3, ← h5]; rfl) (by decide) h6
theorem sA (l : List Value) (hx : ev E x = ptr b) (hy : ev E y = .agg l.toArray) (h : Arr w b T cs) (hn : l.length = cs.length) (hs : (P.info? t).map (·.size) = some l.length) (h1 : ∀ u ∈ l, u.oneCell' = true)
    (hk : ∀ w', Arr w' b T l → Kept w w' b → w'.heap.size = w.heap.size → EL P N ops Q L E w') : EL P N ops Q (⟨none, .store t x y, ty, pos, aft, none⟩ :: L) E w :=
  EL_storeAll (cs' := l.toArray) hx hy rfl h (by simpa using hn) (by simpa using hs) (by simpa using h1) (fun w' a b c => hk w' (by simpa using a) b c)
end
section
variable {P : Program} {N : Nat} {ops : Array Oper} {g fuel : Nat} {S T : World → Prop} {Q : Exit → Env → World → Prop} {listed : Array Bool} {E : Env} {w : World}
variable {d : Nat} {op : Op} {ty : TypeId} {pos : String} {aft : Array Edge} {j : Nat} {t b : Bool}
def okT (ops:Array Oper) (listed:Array Bool) (g i:Nat):Bool:=Region.noSelect ops&&(Region.free .any ops listed i&&((Region.ready .any ops listed).contains i&&(!Nat.beq i g&&reachB .any ops 40 g i)))
def okF (ops:Array Oper) (listed:Array Bool) (g i:Nat):Bool:=Region.noSelect ops&&(Region.free .any ops listed i&&((Region.ready .any ops listed).contains i&&!Nat.beq i g))
theorem jT (i : Nat) (hi : ops[i]? = some ⟨some d, op, ty, pos, aft, none⟩) (hok : okT ops listed g i = true) (v : Value) (hd : Nat.blt d N = true) (hrun : ∀ w, S w → T w → Gives P E w ⟨some d, op, ty, pos, aft, none⟩ v w) (hST : SJ g S T listed w)
    (h : EJ P N ops g S T Q fuel (listed.setIfInBounds i true) (upd E d v) w) : EJ P N ops g S T Q (fuel + 1) listed E w := by
  simp only [okT, Bool.and_eq_true, Bool.not_eq_true'] at hok
  exact EJ_take i hi hok.1 hok.2.1 hok.2.2.1 hok.2.2.2.1 hok.2.2.2.2 v hd hrun hST h
theorem jG (i : Nat) (hi : ops[i]? = some ⟨some d, op, ty, pos, aft, some (j, t)⟩) (hok : okT ops listed g i = true) (e : Nat) (hdst : (ops[j]?).bind (·.dst) = some e) (he : E e = .bool b) (heN : Nat.blt e N = true) (hb : (b == t) = true) (v : Value) (hd : Nat.blt d N = true) (hrun : ∀ w, S w → T w → Gives P E w ⟨some d, op, ty, pos, aft, some (j, t)⟩ v w) (hST : SJ g S T listed w)
    (h : EJ P N ops g S T Q fuel (listed.setIfInBounds i true) (upd E d v) w) : EJ P N ops g S T Q (fuel + 1) listed E w := by
  simp only [okT, Bool.and_eq_true, Bool.not_eq_true'] at hok
  exact EJ_gtake i hi hok.1 hok.2.1 hok.2.2.1 hok.2.2.2.1 hok.2.2.2.2 e hdst he heN hb v hd hrun hST h
theorem jF (i : Nat) (hi : ops[i]? = some ⟨some d, op, ty, pos, aft, none⟩) (hok : okF ops listed g i = true) (v : Value) (hd : Nat.blt d N = true) (hrun : ∀ w, S w → Gives P E w ⟨some d, op, ty, pos, aft, none⟩ v w) (hST : SJ g S T listed w)
    (h : EJ P N ops g S T Q fuel (listed.setIfInBounds i true) (upd E d v) w) : EJ P N ops g S T Q (fuel + 1) listed E w := by
  simp only [okF, Bool.and_eq_true, Bool.not_eq_true'] at hok
  exact EJ_float i hi hok.1 hok.2.1 hok.2.2.1 hok.2.2.2 v hd hrun hST h
end
end Go.Ecal
