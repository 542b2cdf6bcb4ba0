import Derived.Test.YtanpinfhlbbjkaaGreatQClientSeesRecLaw
set_option linter.unusedVariables false
set_option linter.unusedSimpArgs false
namespace Go.Ecal
open Go.RowKit
section
variable {P : Program} {N : Nat} {Q : Exit → Env → World → Prop} {E : Env} {w : World} {ops : Array Oper} {L : List Oper}
variable {d : Nat} {ty : TypeId} {pos : String} {aft : Array Edge} {dst : Option Tmp} {gd : Option (Nat × Bool)}
/-- A method's value: what it is bound to comes first. -/
theorem r_mkfunB {f : FuncId} {first captured : Array Operand} {fs cap : List Value} (h0 : first.toList.map (ev E) = fs) (hx : captured.toList.map (ev E) = cap) : Gives P E w ⟨dst, .makeFunc (.func f) first captured, ty, pos, aft, gd⟩ (.func (.func f) fs.toArray cap.toArray) w := by
  subst hx h0
  simp [Gives, execOp, Instr.makeFunc]
  rw [← Array.toList_map, Array.toArray_toList, ← Array.toList_map, Array.toArray_toList]; exact ⟨rfl, rfl⟩
theorem EL_retB {f : FuncId} {fn : Func} {c : Operand} {fs cap : List Value} {args : Array Operand} {ats : Array TypeId} {R : Value → World → Prop} (l : List Value) (hd : Nat.blt d N = true) (hcv : ev E c = .func (.func f) fs.toArray cap.toArray) (hf : P.funcs[f]? = some fn) (hb : fn.body.isNone = false) (hnm : (fn.name == "runtime.NumGoroutine") = false)
    (ha : fs ++ args.toList.map (ev E) ++ cap = l) (hc : Ret P f l w R) (h : ∀ v w', R v w' → EL P N ops Q L (upd E d v) w') :
    EL P N ops Q (⟨some d, .call { callee := .value c, args, argTypes := ats }, ty, pos, aft, none⟩ :: L) E w := by
  subst ha
  refine EL_call (f := f) (args := fs.toArray ++ args.map (ev E) ++ cap.toArray) (R := fun e w' => ∃ v, e = .returned v ∧ R v w') hd ?_ ?_ (fun e w' ⟨v, he, _⟩ => ⟨v, he⟩) (fun v w' ⟨v', he, hr⟩ => ?_)
  · have h1 : fn.name ≠ "runtime.NumGoroutine" := by simpa using hnm
    have h2 : fn.body ≠ none := by intro h; rw [h] at hb; cases hb
    simp [execOp, resolve, hcv, Deferred.ofValue, invoke, callFunc, hf, h1, h2]
  · have : fs.toArray ++ args.map (ev E) ++ cap.toArray = (fs ++ args.toList.map (ev E) ++ cap).toArray := by apply Array.toList_inj.1; simp
    rw [this]; exact hc
  · injection he with he; subst he; exact h _ _ hr
end
end Go.Ecal
namespace Go.Proofs.YtanpinfhlbbjkaaGreat
open Go.RowKit Go.Ecal
structure FrameT where
  kind : Int
  coll : Int
  index : Int
  links : List (List UInt8)
  sum : List UInt8
def frame0 : FrameT := ⟨0, 0, 0, [], []⟩
def badLink (b : List UInt8) : Bool := decide ((b.length : Int) < 1) || decide (4096 < (b.length : Int))
def linksOk (l : List (List UInt8)) (least : Int) : Bool := decide (least ≤ (l.length : Int)) && (decide ((l.length : Int) ≤ 8) && !l.any badLink)
def FrameT.nums (f : FrameT) : Bool := decide (1 ≤ f.coll) && decide (f.coll ≤ 1099511627776) && decide (0 ≤ f.index) && decide (f.index ≤ 64)
def FrameT.body (f : FrameT) : Bool :=
  if f.kind = 1 then linksOk f.links 1 && (decide (f.index = 0) && decide ((f.sum.length : Int) = 0))
  else if f.kind = 2 then decide ((f.links.length : Int) = 0) && decide ((f.sum.length : Int) = 0)
  else if f.kind = 3 then linksOk f.links 0 && decide ((f.sum.length : Int) = 0)
  else if f.kind = 4 then decide ((f.links.length : Int) = 0) && decide ((f.sum.length : Int) = 32)
  else false
def FrameT.right (f : FrameT) : Bool := f.nums && f.body
def FrameT.head (f : FrameT) : List Any := [Any.int f.kind, Any.int f.coll, Any.int f.index, Any.int f.links.length]
def FrameT.parts (f : FrameT) : List Any := f.head ++ f.links.map Any.bytes ++ [Any.bytes f.sum]
def FrameT.encE (f : FrameT) : Int := if f.right = false then 10 else if 32768 < ((putB f.parts).length : Int) then 11 else 0
def FrameT.encB (f : FrameT) : List UInt8 := if f.encE = 0 then putB f.parts else []
def rdLinks : Nat → Rd → List (List UInt8) → List (List UInt8) × Rd
  | 0, r, a => (a, r)
  | n + 1, r, a => if r.bad then (a, r) else rdLinks n (rdTxtS r 1 4096) (a ++ [rdTxt r 1 4096])
def rdFrame (r : Rd) : FrameT × Rd :=
  let a := rdNumS r 1 4
  let b := rdNumS a 1 1099511627776
  let c := rdNumS b 0 64
  let d := rdNumS c 0 8
  let x := rdLinks (rdNum c 0 8).toNat d []
  (⟨rdNum r 1 4, rdNum a 1 1099511627776, rdNum b 0 64, x.1, rdTxt x.2 0 32⟩, rdTxtS x.2 0 32)
def frOk (b : List UInt8) : Bool := rdEnd (rdFrame ⟨b, false⟩).2 && (rdFrame ⟨b, false⟩).1.right
def frE (b : List UInt8) : Int := if 32768 < (b.length : Int) then 11 else if frOk b then 0 else 10
def frV (b : List UInt8) : FrameT := if frE b = 0 then (rdFrame ⟨b, false⟩).1 else frame0
theorem rdl_step {n : Nat} {r : Rd} {ls : List (List UInt8)} (hn : 0 < n) (hb : r.bad = false) : rdLinks n r ls = rdLinks (n - 1) (rdTxtS r 1 4096) (ls ++ [rdTxt r 1 4096]) := by
  obtain ⟨m, rfl⟩ : ∃ m, n = m + 1 := ⟨n - 1, by omega⟩
  rw [rdLinks, if_neg (by rw [hb]; decide)]; rfl
theorem rdl_bad {n : Nat} {r : Rd} {ls : List (List UInt8)} (hb : r.bad = true) : rdLinks n r ls = (ls, r) := by
  cases n with
  | zero => rfl
  | succ n => rw [rdLinks, if_pos hb]
theorem nums_fr {f : FrameT} : f.nums = true ↔ (1 ≤ f.coll ∧ f.coll ≤ 1099511627776) ∧ 0 ≤ f.index ∧ f.index ≤ 64 := by
  simp only [FrameT.nums, Bool.and_eq_true, decide_eq_true_eq]; omega
theorem links_iff {l : List (List UInt8)} {least : Int} : linksOk l least = true ↔ least ≤ (l.length : Int) ∧ l.length ≤ 8 ∧ ∀ b ∈ l, 1 ≤ b.length ∧ b.length ≤ 4096 := by
  simp only [linksOk, Bool.and_eq_true, decide_eq_true_eq, Bool.not_eq_true', List.any_eq_false, badLink, Bool.or_eq_true, not_or]
  constructor
  · rintro ⟨h1, h2, h3⟩; exact ⟨h1, by omega, fun b hb => by have := h3 b hb; omega⟩
  · rintro ⟨h1, h2, h3⟩; exact ⟨h1, by omega, fun b hb => by have := h3 b hb; omega⟩
/-- What is right: few links, none empty, none too long. -/
theorem right_fr {f : FrameT} (h : f.right = true) : ((1 ≤ f.kind ∧ f.kind ≤ 4) ∧ (1 ≤ f.coll ∧ f.coll ≤ 1099511627776) ∧ 0 ≤ f.index ∧ f.index ≤ 64) ∧ f.links.length ≤ 8 ∧ (∀ b ∈ f.links, 1 ≤ b.length ∧ b.length ≤ 4096) ∧ f.sum.length ≤ 32 := by
  simp only [FrameT.right, Bool.and_eq_true] at h
  obtain ⟨h1, h2⟩ := h
  rw [nums_fr] at h1
  have nil : ((f.links.length : Int) = 0) → f.links.length ≤ 8 ∧ (∀ b ∈ f.links, 1 ≤ b.length ∧ b.length ≤ 4096) := fun h0 => by
    have : f.links = [] := List.eq_nil_of_length_eq_zero (by omega)
    rw [this]; exact ⟨by decide, fun b hb => by cases hb⟩
  unfold FrameT.body at h2
  split at h2
  · rename_i hk
    simp only [Bool.and_eq_true, decide_eq_true_eq, links_iff] at h2
    exact ⟨⟨by omega, h1⟩, h2.1.2.1, h2.1.2.2, by omega⟩
  · split at h2
    · simp only [Bool.and_eq_true, decide_eq_true_eq] at h2
      have := nil h2.1
      exact ⟨⟨by omega, h1⟩, this.1, this.2, by omega⟩
    · split at h2
      · simp only [Bool.and_eq_true, decide_eq_true_eq, links_iff] at h2
        exact ⟨⟨by omega, h1⟩, h2.1.2.1, h2.1.2.2, by omega⟩
      · split at h2
        · simp only [Bool.and_eq_true, decide_eq_true_eq] at h2
          have := nil h2.1
          exact ⟨⟨by omega, h1⟩, this.1, this.2, by omega⟩
        · cases h2
theorem fr_put {f : FrameT} (h : f.right = true) : putE f.parts = 0 := by
  obtain ⟨⟨h1, h2, h3⟩, h4, h5, h6⟩ := right_fr h
  rw [putE_iff]
  intro a ha
  have N : ∀ n : Int, 0 ≤ n ∧ n ≤ 1099511627776 → partE (.int n) = 0 := fun n hn => numE_ok hn
  simp only [FrameT.parts, FrameT.head, List.mem_append, List.mem_cons, List.not_mem_nil, or_false, List.mem_map] at ha
  rcases ha with ((rfl | rfl | rfl | rfl) | ⟨b, hb, rfl⟩) | rfl
  · exact N _ (by omega)
  · exact N _ (by omega)
  · exact N _ (by omega)
  · exact N _ (by omega)
  · exact if_pos (h5 b hb).2
  · exact if_pos (by omega)
/-- The links' bytes. -/
def lnB (l : List (List UInt8)) : List UInt8 := (l.map fun b => be2 (b.length : Int) ++ b).flatten
theorem rdLinks_lnB {x : List UInt8} : ∀ (l : List (List UInt8)) (a : List (List UInt8)), (∀ b ∈ l, 1 ≤ b.length ∧ b.length ≤ 4096) → rdLinks l.length ⟨lnB l ++ x, false⟩ a = (a ++ l, ⟨x, false⟩)
  | [], a, _ => by simp [rdLinks, lnB]
  | b :: l, a, h => by
    obtain ⟨h1, h2⟩ := h b (by simp)
    have t := rd_txt (t := b) (lo := 1) (hi := 4096) (x := lnB l ++ x) (by omega) (by omega)
    have he : lnB (b :: l) ++ x = be2 (b.length : Int) ++ (b ++ (lnB l ++ x)) := by simp [lnB, List.append_assoc]
    rw [List.length_cons, rdLinks, if_neg (by show ¬ false = true; decide), he, t.1, t.2, rdLinks_lnB l (a ++ [b]) (fun c hc => h c (by simp [hc]))]
    simp
theorem fr_bytes {f : FrameT} (h : f.right = true) : putB f.parts = be6 f.kind ++ (be6 f.coll ++ (be6 f.index ++ (be6 (f.links.length : Int) ++ (lnB f.links ++ (be2 (f.sum.length : Int) ++ (f.sum ++ [])))))) := by
  obtain ⟨⟨h1, h2, h3⟩, h4, h5, h6⟩ := right_fr h
  rw [putB_ok (fr_put h)]
  have hl : ∀ l : List (List UInt8), (∀ b ∈ l, 1 ≤ b.length ∧ b.length ≤ 4096) → ((l.map Any.bytes).map partB).flatten = lnB l := fun l hl => by
    induction l with
    | nil => rfl
    | cons b r ih =>
      have hb := hl b (by simp)
      have ih2 := ih fun c hc => hl c (by simp [hc])
      simp only [List.map_cons, List.flatten_cons, lnB] at ih2 ⊢
      rw [ih2, show partB (.bytes b) = be2 (b.length : Int) ++ b from if_pos hb.2]
  simp only [FrameT.parts, FrameT.head, List.map_append, List.flatten_append, hl _ h5]
  simp only [List.map_cons, List.map_nil, List.flatten_cons, List.flatten_nil, partB, numB_ok (show 0 ≤ f.kind ∧ f.kind ≤ 1099511627776 by omega), numB_ok (show 0 ≤ f.coll ∧ f.coll ≤ 1099511627776 by omega), numB_ok (show 0 ≤ f.index ∧ f.index ≤ 1099511627776 by omega), numB_ok (show 0 ≤ (f.links.length : Int) ∧ (f.links.length : Int) ≤ 1099511627776 by omega), List.append_assoc, List.append_nil]
  rw [show textB f.sum = be2 (f.sum.length : Int) ++ f.sum from if_pos (by omega)]
/-- What was written is read as it was. -/
theorem fr_read {f : FrameT} (h : f.encE = 0) : f.right = true ∧ frE f.encB = 0 ∧ frV f.encB = f := by
  have hr : f.right = true := by
    cases q : f.right with
    | true => rfl
    | false => rw [FrameT.encE, if_pos q] at h; cases h
  have hl : ¬ 32768 < ((putB f.parts).length : Int) := fun q => by
    rw [FrameT.encE, if_neg (by rw [hr]; decide), if_pos q] at h; cases h
  have hb : f.encB = putB f.parts := if_pos h
  obtain ⟨⟨h1, h2, h3⟩, h4, h5, h6⟩ := right_fr hr
  have n1 := rd_num (n := f.kind) (lo := 1) (hi := 4) (x := be6 f.coll ++ (be6 f.index ++ (be6 (f.links.length : Int) ++ (lnB f.links ++ (be2 (f.sum.length : Int) ++ (f.sum ++ [])))))) (by omega) (by omega)
  have n2 := rd_num (n := f.coll) (lo := 1) (hi := 1099511627776) (x := be6 f.index ++ (be6 (f.links.length : Int) ++ (lnB f.links ++ (be2 (f.sum.length : Int) ++ (f.sum ++ []))))) (by omega) (by omega)
  have n3 := rd_num (n := f.index) (lo := 0) (hi := 64) (x := be6 (f.links.length : Int) ++ (lnB f.links ++ (be2 (f.sum.length : Int) ++ (f.sum ++ [])))) (by omega) (by omega)
  have n4 := rd_num (n := (f.links.length : Int)) (lo := 0) (hi := 8) (x := lnB f.links ++ (be2 (f.sum.length : Int) ++ (f.sum ++ []))) (by omega) (by omega)
  have n5 := rdLinks_lnB (x := be2 (f.sum.length : Int) ++ (f.sum ++ [])) f.links [] h5
  have n6 := rd_txt (t := f.sum) (lo := 0) (hi := 32) (x := []) (by omega) (by omega)
  have hx : rdFrame ⟨f.encB, false⟩ = (f, ⟨[], false⟩) := by
    rw [hb, fr_bytes hr]
    simp only [rdFrame, n1.1, n1.2, n2.1, n2.2, n3.1, n3.2, n4.1, n4.2, Int.toNat_natCast, n5, n6.1, n6.2, List.nil_append]
  have hok : frOk f.encB = true := by rw [frOk, hx]; dsimp only; rw [hr]; rfl
  have hE : frE f.encB = 0 := by rw [frE, if_neg (by rw [hb]; exact hl), if_pos hok]
  exact ⟨hr, hE, by rw [frV, if_pos hE, hx]⟩
end Go.Proofs.YtanpinfhlbbjkaaGreat
