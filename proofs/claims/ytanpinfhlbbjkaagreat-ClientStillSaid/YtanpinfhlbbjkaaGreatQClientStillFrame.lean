import Derived.Test.YtanpinfhlbbjkaaGreatQClientStillSealed
set_option linter.unusedVariables false
set_option linter.unusedSimpArgs false
namespace Go.Proofs.YtanpinfhlbbjkaaGreat
open Go.RowKit Go.Ecal
theorem beN6 (a b c d e f : UInt8) : beN [a, b, c, d, e, f] = 256 * (256 * (256 * (256 * (256 * (a.toNat : Int) + b.toNat) + c.toNat) + d.toNat) + e.toNat) + f.toNat := by simp [beN]
theorem beN2 (a b : UInt8) : beN [a, b] = 256 * (a.toNat : Int) + b.toNat := by simp [beN]
theorem beN_be6 {n : Int} (h : 0 ≤ n ∧ n ≤ 1099511627776) : beN (be6 n) = n := by
  rw [be6, beN6]; simp only [bof_nat]; omega
theorem beN_be2 {n : Int} (h : 0 ≤ n ∧ n < 65536) : beN (be2 n) = n := by
  rw [be2, beN2]; simp only [bof_nat]; omega
theorem take_app {a x : List UInt8} {n : Int} (h : (a.length : Int) = n) : rdTake ⟨a ++ x, false⟩ n = a ∧ rdTakeS ⟨a ++ x, false⟩ n = ⟨x, false⟩ := by
  have hs : rdShort ⟨a ++ x, false⟩ n = false := by simp [rdShort]; omega
  subst h
  constructor
  · rw [rdTake, if_neg (by rw [hs]; decide)]; simp
  · rw [rdTakeS, if_neg (by rw [hs]; decide)]; simp
theorem rd_num {n lo hi : Int} {x : List UInt8} (h : 0 ≤ n ∧ n ≤ 1099511627776) (h1 : lo ≤ n ∧ n ≤ hi) : rdNum ⟨be6 n ++ x, false⟩ lo hi = n ∧ rdNumS ⟨be6 n ++ x, false⟩ lo hi = ⟨x, false⟩ := by
  obtain ⟨t1, t2⟩ := take_app (a := be6 n) (x := x) (n := 6) rfl
  have hg : rdGet ⟨be6 n ++ x, false⟩ 6 = n := by rw [rdGet, t1, beN_be6 h]
  have hm : rdNumS ⟨be6 n ++ x, false⟩ lo hi = ⟨x, false⟩ := by
    rw [rdNumS, rdMid, t2, hg]; simp; omega
  exact ⟨by rw [rdNum, hm, hg]; rfl, hm⟩
theorem rd_txt {t x : List UInt8} {lo hi : Int} (h : t.length < 65536) (h1 : lo ≤ (t.length : Int) ∧ (t.length : Int) ≤ hi) : rdTxt ⟨be2 (t.length : Int) ++ (t ++ x), false⟩ lo hi = t ∧ rdTxtS ⟨be2 (t.length : Int) ++ (t ++ x), false⟩ lo hi = ⟨x, false⟩ := by
  obtain ⟨t1, t2⟩ := take_app (a := be2 (t.length : Int)) (x := t ++ x) (n := 2) rfl
  have hg : rdGet ⟨be2 (t.length : Int) ++ (t ++ x), false⟩ 2 = (t.length : Int) := by rw [rdGet, t1, beN_be2 (by omega)]
  have hm : rdMid ⟨be2 (t.length : Int) ++ (t ++ x), false⟩ 2 lo hi = ⟨t ++ x, false⟩ := by
    rw [rdMid, t2, hg]; simp; omega
  obtain ⟨t3, t4⟩ := take_app (a := t) (x := x) (n := (t.length : Int)) rfl
  exact ⟨by rw [rdTxt, hm, hg, if_neg Bool.false_ne_true, t3], by rw [rdTxtS, hm, hg, if_neg Bool.false_ne_true, t4]⟩
def Record.flat (r : Record) : List UInt8 := be6 r.coll ++ (be6 r.epoch ++ (be6 r.writer ++ (be6 r.count ++ (be2 (r.box.length : Int) ++ r.box))))
theorem right_iff {r : Record} : r.right = true ↔ r.nums = true ∧ 80 ≤ (r.box.length : Int) ∧ (r.box.length : Int) ≤ 2064 := by
  simp only [Record.right, Bool.and_eq_true, decide_eq_true_eq, and_assoc]
theorem rec_put {r : Record} (h : r.right = true) : putE r.allParts = 0 ∧ r.encB = r.flat := by
  have hp := h
  rw [right_iff, nums_iff] at hp
  have h0 : putE r.allParts = 0 := by
    rw [putE_iff]; intro a ha
    simp only [Record.allParts, List.mem_cons, List.not_mem_nil, or_false] at ha
    rcases ha with rfl | rfl | rfl | rfl | rfl
    · exact numE_ok (by omega)
    · exact numE_ok (by omega)
    · exact numE_ok (by omega)
    · exact numE_ok (by omega)
    · exact if_pos (by omega)
  refine ⟨h0, ?_⟩
  rw [Record.encB, if_pos h, putB_ok h0]
  simp only [Record.allParts, List.map_cons, List.map_nil, partB, List.flatten_cons, List.flatten_nil, List.append_nil]
  rw [numB_ok (by omega), numB_ok (by omega), numB_ok (by omega), numB_ok (by omega), textB, if_pos (by omega)]; rfl
theorem rec_read {r : Record} (h : r.right = true) : recOk r.flat = true ∧ recV r.flat = r := by
  have hp := h
  rw [right_iff, nums_iff] at hp
  have h5 := rd_txt (t := r.box) (x := []) (lo := 80) (hi := 2064) (by omega) (by omega)
  rw [List.append_nil] at h5
  have h4 := rd_num (n := r.count) (lo := 1) (hi := 1099511627776) (x := be2 (r.box.length : Int) ++ r.box) (by omega) (by omega)
  have h3 := rd_num (n := r.writer) (lo := 1) (hi := 16) (x := be6 r.count ++ (be2 (r.box.length : Int) ++ r.box)) (by omega) (by omega)
  have h2 := rd_num (n := r.epoch) (lo := 0) (hi := 16) (x := be6 r.writer ++ (be6 r.count ++ (be2 (r.box.length : Int) ++ r.box))) (by omega) (by omega)
  have h1 := rd_num (n := r.coll) (lo := 1) (hi := 1099511627776) (x := be6 r.epoch ++ (be6 r.writer ++ (be6 r.count ++ (be2 (r.box.length : Int) ++ r.box)))) (by omega) (by omega)
  have hr : rdRec ⟨r.flat, false⟩ = (r, ⟨[], false⟩) := by
    simp only [rdRec, Record.flat, h1.1, h1.2, h2.1, h2.2, h3.1, h3.2, h4.1, h4.2, h5.1, h5.2]
  have ho : recOk r.flat = true := by rw [recOk, hr]; rfl
  exact ⟨ho, by rw [recV, if_pos ho, hr]⟩
theorem flat_len (r : Record) : r.flat.length = 26 + r.box.length := by simp [Record.flat, be6, be2]; omega
theorem enc_len {r : Record} (hr : r.right = true) : r.encB.length = 26 + r.box.length := by rw [(rec_put hr).2, flat_len]
end Go.Proofs.YtanpinfhlbbjkaaGreat

namespace Go.Ecal
open Go.RowKit
section
variable {P : Program} {N : Nat} {Q : Exit → Env → World → Prop} {E : Env} {w : World} {ops : Array Oper} {L : List Oper}
variable {d : Nat} {ty : TypeId} {pos : String} {aft : Array Edge} {dst : Option Tmp} {gd : Option (Nat × Bool)}
/-- A method's value: what it is bound to comes first. -/
theorem r_mkfunB {f : FuncId} {first captured : Array Operand} {fs cap : List Value} (h0 : first.toList.map (ev E) = fs) (hx : captured.toList.map (ev E) = cap) : Gives P E w ⟨dst, .makeFunc (.func f) first captured, ty, pos, aft, gd⟩ (.func (.func f) fs.toArray cap.toArray) w := by
  subst hx h0
  simp [Gives, execOp, Instr.makeFunc]
  rw [← Array.toList_map, Array.toArray_toList, ← Array.toList_map, Array.toArray_toList]; exact ⟨rfl, rfl⟩
theorem EL_retB {f : FuncId} {fn : Func} {c : Operand} {fs cap : List Value} {args : Array Operand} {ats : Array TypeId} {R : Value → World → Prop} (l : List Value) (hd : Nat.blt d N = true) (hcv : ev E c = .func (.func f) fs.toArray cap.toArray) (hf : P.funcs[f]? = some fn) (hb : fn.body.isNone = false) (hnm : (fn.name == "runtime.NumGoroutine") = false)
    (ha : fs ++ args.toList.map (ev E) ++ cap = l) (hc : Ret P f l w R) (h : ∀ v w', R v w' → EL P N ops Q L (upd E d v) w') :
    EL P N ops Q (⟨some d, .call { callee := .value c, args, argTypes := ats }, ty, pos, aft, none⟩ :: L) E w := by
  subst ha
  refine EL_call (f := f) (args := fs.toArray ++ args.map (ev E) ++ cap.toArray) (R := fun e w' => ∃ v, e = .returned v ∧ R v w') hd ?_ ?_ (fun e w' ⟨v, he, _⟩ => ⟨v, he⟩) (fun v w' ⟨v', he, hr⟩ => ?_)
  · have h1 : fn.name ≠ "runtime.NumGoroutine" := by simpa using hnm
    have h2 : fn.body ≠ none := by intro h; rw [h] at hb; cases hb
    simp [execOp, resolve, hcv, Deferred.ofValue, invoke, callFunc, hf, h1, h2]
  · have : fs.toArray ++ args.map (ev E) ++ cap.toArray = (fs ++ args.toList.map (ev E) ++ cap).toArray := by apply Array.toList_inj.1; simp
    rw [this]; exact hc
  · injection he with he; subst he; exact h _ _ hr
end
end Go.Ecal
namespace Go.Proofs.YtanpinfhlbbjkaaGreat
open Go.RowKit Go.Ecal
structure FrameT where
  kind : Int
  coll : Int
  index : Int
  links : List (List UInt8)
  sum : List UInt8
def frame0 : FrameT := ⟨0, 0, 0, [], []⟩
def badLink (b : List UInt8) : Bool := decide ((b.length : Int) < 1) || decide (4096 < (b.length : Int))
def linksOk (l : List (List UInt8)) (least : Int) : Bool := decide (least ≤ (l.length : Int)) && (decide ((l.length : Int) ≤ 8) && !l.any badLink)
def FrameT.nums (f : FrameT) : Bool := decide (1 ≤ f.coll) && decide (f.coll ≤ 1099511627776) && decide (0 ≤ f.index) && decide (f.index ≤ 64)
def FrameT.body (f : FrameT) : Bool :=
  if f.kind = 1 then linksOk f.links 1 && (decide (f.index = 0) && decide ((f.sum.length : Int) = 0))
  else if f.kind = 2 then decide ((f.links.length : Int) = 0) && decide ((f.sum.length : Int) = 0)
  else if f.kind = 3 then linksOk f.links 0 && decide ((f.sum.length : Int) = 0)
  else if f.kind = 4 then decide ((f.links.length : Int) = 0) && decide ((f.sum.length : Int) = 32)
  else false
def FrameT.right (f : FrameT) : Bool := f.nums && f.body
def FrameT.head (f : FrameT) : List Any := [Any.int f.kind, Any.int f.coll, Any.int f.index, Any.int f.links.length]
def FrameT.parts (f : FrameT) : List Any := f.head ++ f.links.map Any.bytes ++ [Any.bytes f.sum]
def FrameT.encE (f : FrameT) : Int := if f.right = false then 10 else if 32768 < ((putB f.parts).length : Int) then 11 else 0
def FrameT.encB (f : FrameT) : List UInt8 := if f.encE = 0 then putB f.parts else []
def rdLinks : Nat → Rd → List (List UInt8) → List (List UInt8) × Rd
  | 0, r, a => (a, r)
  | n + 1, r, a => if r.bad then (a, r) else rdLinks n (rdTxtS r 1 4096) (a ++ [rdTxt r 1 4096])
def rdFrame (r : Rd) : FrameT × Rd :=
  let a := rdNumS r 1 4
  let b := rdNumS a 1 1099511627776
  let c := rdNumS b 0 64
  let d := rdNumS c 0 8
  let x := rdLinks (rdNum c 0 8).toNat d []
  (⟨rdNum r 1 4, rdNum a 1 1099511627776, rdNum b 0 64, x.1, rdTxt x.2 0 32⟩, rdTxtS x.2 0 32)
def frOk (b : List UInt8) : Bool := rdEnd (rdFrame ⟨b, false⟩).2 && (rdFrame ⟨b, false⟩).1.right
def frE (b : List UInt8) : Int := if 32768 < (b.length : Int) then 11 else if frOk b then 0 else 10
def frV (b : List UInt8) : FrameT := if frE b = 0 then (rdFrame ⟨b, false⟩).1 else frame0
theorem rdl_step {n : Nat} {r : Rd} {ls : List (List UInt8)} (hn : 0 < n) (hb : r.bad = false) : rdLinks n r ls = rdLinks (n - 1) (rdTxtS r 1 4096) (ls ++ [rdTxt r 1 4096]) := by
  obtain ⟨m, rfl⟩ : ∃ m, n = m + 1 := ⟨n - 1, by omega⟩
  rw [rdLinks, if_neg (by rw [hb]; decide)]; rfl
theorem rdl_bad {n : Nat} {r : Rd} {ls : List (List UInt8)} (hb : r.bad = true) : rdLinks n r ls = (ls, r) := by
  cases n with
  | zero => rfl
  | succ n => rw [rdLinks, if_pos hb]
theorem nums_fr {f : FrameT} : f.nums = true ↔ (1 ≤ f.coll ∧ f.coll ≤ 1099511627776) ∧ 0 ≤ f.index ∧ f.index ≤ 64 := by
  simp only [FrameT.nums, Bool.and_eq_true, decide_eq_true_eq]; omega
theorem links_iff {l : List (List UInt8)} {least : Int} : linksOk l least = true ↔ least ≤ (l.length : Int) ∧ l.length ≤ 8 ∧ ∀ b ∈ l, 1 ≤ b.length ∧ b.length ≤ 4096 := by
  simp only [linksOk, Bool.and_eq_true, decide_eq_true_eq, Bool.not_eq_true', List.any_eq_false, badLink, Bool.or_eq_true, not_or]
  constructor
  · rintro ⟨h1, h2, h3⟩; exact ⟨h1, by omega, fun b hb => by have := h3 b hb; omega⟩
  · rintro ⟨h1, h2, h3⟩; exact ⟨h1, by omega, fun b hb => by have := h3 b hb; omega⟩
/-- What is right: few links, none empty, none too long. -/
theorem right_fr {f : FrameT} (h : f.right = true) : ((1 ≤ f.kind ∧ f.kind ≤ 4) ∧ (1 ≤ f.coll ∧ f.coll ≤ 1099511627776) ∧ 0 ≤ f.index ∧ f.index ≤ 64) ∧ f.links.length ≤ 8 ∧ (∀ b ∈ f.links, 1 ≤ b.length ∧ b.length ≤ 4096) ∧ f.sum.length ≤ 32 := by
  simp only [FrameT.right, Bool.and_eq_true] at h
  obtain ⟨h1, h2⟩ := h
  rw [nums_fr] at h1
  have nil : ((f.links.length : Int) = 0) → f.links.length ≤ 8 ∧ (∀ b ∈ f.links, 1 ≤ b.length ∧ b.length ≤ 4096) := fun h0 => by
    have : f.links = [] := List.eq_nil_of_length_eq_zero (by omega)
    rw [this]; exact ⟨by decide, fun b hb => by cases hb⟩
  unfold FrameT.body at h2
  split at h2
  · rename_i hk
    simp only [Bool.and_eq_true, decide_eq_true_eq, links_iff] at h2
    exact ⟨⟨by omega, h1⟩, h2.1.2.1, h2.1.2.2, by omega⟩
  · split at h2
    · simp only [Bool.and_eq_true, decide_eq_true_eq] at h2
      have := nil h2.1
      exact ⟨⟨by omega, h1⟩, this.1, this.2, by omega⟩
    · split at h2
      · simp only [Bool.and_eq_true, decide_eq_true_eq, links_iff] at h2
        exact ⟨⟨by omega, h1⟩, h2.1.2.1, h2.1.2.2, by omega⟩
      · split at h2
        · simp only [Bool.and_eq_true, decide_eq_true_eq] at h2
          have := nil h2.1
          exact ⟨⟨by omega, h1⟩, this.1, this.2, by omega⟩
        · cases h2
end Go.Proofs.YtanpinfhlbbjkaaGreat
