import Derived.Test.YtanpinfhlbbjkaaGreatQClientSeesBucket
import Derived.Test.YtanpinfhlbbjkaaGreatQClientSeesRing
set_option linter.unusedVariables false
set_option linter.unusedSimpArgs false
namespace Go.Proofs.YtanpinfhlbbjkaaGreat
open Go.RowKit Go.Ecal
structure Record where
  coll : Int
  epoch : Int
  writer : Int
  count : Int
  box : List UInt8
  deriving DecidableEq
def Record.nums (r : Record) : Bool := decide (1 ≤ r.coll) && decide (r.coll ≤ 1099511627776) && decide (0 ≤ r.epoch) && decide (r.epoch ≤ 16) && decide (1 ≤ r.writer) && decide (r.writer ≤ 16) && decide (1 ≤ r.count) && decide (r.count ≤ 1099511627776)
theorem nums_iff {r : Record} : r.nums = true ↔ (1 ≤ r.coll ∧ r.coll ≤ 1099511627776) ∧ (0 ≤ r.epoch ∧ r.epoch ≤ 16) ∧ (1 ≤ r.writer ∧ r.writer ≤ 16) ∧ 1 ≤ r.count ∧ r.count ≤ 1099511627776 := by
  simp only [Record.nums, Bool.and_eq_true, decide_eq_true_eq]; omega
def Record.right (r : Record) : Bool := r.nums && decide (80 ≤ (r.box.length : Int)) && decide ((r.box.length : Int) ≤ 2064)
def Record.numParts (r : Record) : List Any := [Any.int r.coll, Any.int r.epoch, Any.int r.writer, Any.int r.count]
def Record.front (r : Record) : List UInt8 := putB r.numParts
def Record.allParts (r : Record) : List Any := [Any.int r.coll, Any.int r.epoch, Any.int r.writer, Any.int r.count, Any.bytes r.box]
def Record.encE (r : Record) : Int := if r.right then putE r.allParts else 10
def Record.encB (r : Record) : List UInt8 := if r.right then putB r.allParts else []
def record0 : Record := ⟨0, 0, 0, 0, []⟩
def rdRec (r : Rd) : Record × Rd :=
  let a := rdNumS r 1 1099511627776
  let b := rdNumS a 0 16
  let c := rdNumS b 1 16
  let d := rdNumS c 1 1099511627776
  (⟨rdNum r 1 1099511627776, rdNum a 0 16, rdNum b 1 16, rdNum c 1 1099511627776, rdTxt d 80 2064⟩, rdTxtS d 80 2064)
def recOk (b : List UInt8) : Bool := rdEnd (rdRec ⟨b, false⟩).2
def recE (b : List UInt8) : Int := if recOk b then 0 else 10
def recV (b : List UInt8) : Record := if recOk b then (rdRec ⟨b, false⟩).1 else record0
def markT (L : List Thing) (s : List UInt8) (coll who : Int) (b : List UInt8) : Thing := tCode (rightB L s uWriter who) (putB [Any.int coll, Any.bytes b])
def markB (L : List Thing) (s : List UInt8) (coll who : Int) (b : List UInt8) : List UInt8 := signOf 77 (onceN (markT L s coll who b) (rightL L s uWriter who) : Int)
def markL (L : List Thing) (s : List UInt8) (coll who : Int) (b : List UInt8) : List Thing := onceL (markT L s coll who b) (rightL L s uWriter who)
theorem putB_le (l : List Any) : (putB l).length ≤ 4098 * l.length := by
  unfold putB; split
  · have := put_le (l := l) l.length; rwa [List.take_length] at this
  · simp
theorem wraps_each {p : Int} {l : List WrapT} (h : wrapsGo p l = true) : ∀ w ∈ l, (1 ≤ w.who ∧ w.who ≤ 16) ∧ w.box.length = 48 := by
  induction l generalizing p with
  | nil => intro w hw; cases hw
  | cons a r ih =>
    simp only [wrapsGo, Bool.and_eq_true, decide_eq_true_eq] at h
    intro w hw
    rcases List.mem_cons.1 hw with rfl | hw
    · exact ⟨within_iff.1 h.1.1.1, h.1.1.2⟩
    · exact ih h.2 w hw
theorem right_head {e : Entry} (h : e.right = true) : (1 ≤ e.kind ∧ e.kind ≤ 5) ∧ (1 ≤ e.writer ∧ e.writer ≤ 16) ∧ 1 ≤ e.seq ∧ e.seq ≤ 1099511627776 := by
  simp only [Entry.right, Entry.head, Bool.and_eq_true, within_iff] at h; exact ⟨h.1.1.1.1, h.1.1.1.2, h.1.1.2⟩
/-- What is right is written. -/
theorem right_put {e : Entry} (h : e.right = true) : putE e.parts = 0 := by
  obtain ⟨h1, h2, h3⟩ := right_head h
  have hb : e.body = true := by simp only [Entry.right, Bool.and_eq_true] at h; exact h.2
  have N : ∀ n : Int, 0 ≤ n ∧ n ≤ 1099511627776 → partE (.int n) = 0 := fun n hn => numE_ok hn
  have T : ∀ l : List UInt8, l.length ≤ 4096 → partE (.bytes l) = 0 := fun l hl => if_pos hl
  rw [putE_iff]
  intro a ha
  rw [Entry.parts] at ha
  rcases List.mem_append.1 ha with ha | ha
  · simp only [List.mem_cons, List.not_mem_nil, or_false] at ha
    rcases ha with rfl | rfl | rfl <;> exact N _ (by omega)
  · rw [Entry.body] at hb
    rcases (by omega : e.kind = 1 ∨ e.kind = 2 ∨ e.kind = 3 ∨ e.kind = 4 ∨ e.kind = 5) with k | k | k | k | k
    · rw [if_pos (.inl k)] at hb; simp only [Bool.and_eq_true, within_iff, decide_eq_true_eq] at hb
      rw [if_pos k] at ha; simp only [List.mem_cons, List.not_mem_nil, or_false] at ha
      rcases ha with rfl | rfl <;> exact T _ (by omega)
    · rw [if_pos (.inr k)] at hb; simp only [Bool.and_eq_true, within_iff, decide_eq_true_eq] at hb
      rw [if_neg (by omega), if_pos k] at ha; simp only [List.mem_cons, List.not_mem_nil, or_false] at ha
      rw [ha]; exact T _ (by omega)
    · rw [if_neg (by omega), if_pos k] at hb; simp only [Bool.and_eq_true, within_iff] at hb
      rw [if_neg (by omega), if_neg (by omega), if_pos k] at ha; simp only [List.mem_cons, List.not_mem_nil, or_false] at ha
      rcases ha with rfl | rfl <;> exact N _ (by omega)
    · rw [if_neg (by omega), if_neg (by omega), if_pos k] at hb; simp only [within_iff] at hb
      rw [if_neg (by omega), if_neg (by omega), if_neg (by omega), if_pos k] at ha; simp only [List.mem_cons, List.not_mem_nil, or_false] at ha
      rw [ha]; exact N _ (by omega)
    · rw [if_neg (by omega), if_neg (by omega), if_neg (by omega)] at hb; simp only [Bool.and_eq_true, within_iff, wrapsOk, decide_eq_true_eq] at hb
      rw [if_neg (by omega), if_neg (by omega), if_neg (by omega), if_neg (by omega), if_pos k] at ha
      rcases List.mem_append.1 ha with ha | ha
      · simp only [List.mem_cons, List.not_mem_nil, or_false] at ha
        rcases ha with rfl | rfl <;> exact N _ (by omega)
      · obtain ⟨l, hl, ha⟩ := List.mem_flatten.1 ha
        obtain ⟨w, hw, rfl⟩ := List.mem_map.1 hl
        obtain ⟨w1, w2⟩ := wraps_each hb.2.1 w hw
        simp only [List.mem_cons, List.not_mem_nil, or_false] at ha
        rcases ha with rfl | rfl
        · exact N _ (by omega)
        · exact T _ (by omega)
theorem encE_right {e : Entry} (h : e.right = true) : e.encE = 0 := by rw [Entry.encE, if_pos h, right_put h]
theorem encE_wrong {e : Entry} (h : e.right = false) : e.encE = 10 := by rw [Entry.encE, h]; rfl
def tryB (e : Entry) : List UInt8 := putB [Any.bytes e.encB, Any.bytes (List.replicate 32 0)]
def sealRE (k : List UInt8) (r : Record) (e : Entry) : Int :=
  if e.encE ≠ 0 then e.encE else if e.writer ≠ r.writer then 40 else if k.length ≠ 32 then 21 else if r.nums = false then 12 else bsizeE ((tryB e).length : Int)
def plainB (L : List Thing) (s : List UInt8) (r : Record) (e : Entry) : List UInt8 := putB [Any.bytes e.encB, Any.bytes (markB L s r.coll r.writer e.encB)]
def sealRT (L : List Thing) (s k : List UInt8) (r : Record) (e : Entry) : Thing := tBox k (nonceB r.writer r.count) r.front (padB (plainB L s r e))
def sealRL (L : List Thing) (s k : List UInt8) (r : Record) (e : Entry) : List Thing := if sealRE k r e = 0 then markL L s r.coll r.writer e.encB ++ [sealRT L s k r e] else L
def sealRR (L : List Thing) (s k : List UInt8) (r : Record) (e : Entry) : Record :=
  if sealRE k r e = 0 then { r with box := boxOf (((markL L s r.coll r.writer e.encB).length : Int) + 1) (padB (plainB L s r e)).length } else record0
theorem markL_len (L : List Thing) (s : List UInt8) (c who : Int) (b : List UInt8) : (markL L s c who b).length ≤ L.length + 2 :=
  Nat.le_trans (onceL_len _ _) (Nat.succ_le_succ (rightL_len _ _ _ _))
theorem padB_len (l : List UInt8) : (padB l).length ≤ 2048 := by
  unfold padB; split
  · rename_i h
    obtain ⟨z, hz, _, _, h3, h4, _⟩ := bsize_facts l.length (by omega) (by omega)
    rw [bpad_length l z hz h3]; omega
  · simp
def opened (L : List Thing) (k : List UInt8) (r : Record) : Option (List UInt8) := openOf L k (nonceB r.writer r.count) r.front r.box
def innerB (y : List UInt8) : List UInt8 := rdTxt ⟨stripB y, false⟩ 0 4096
def innerT (y : List UInt8) : List UInt8 := rdTxt (rdTxtS ⟨stripB y, false⟩ 0 4096) 0 4096
def innerOk (y : List UInt8) : Bool := rdEnd (rdTxtS (rdTxtS ⟨stripB y, false⟩ 0 4096) 0 4096)
/-- What is in a box that was opened. -/
def yOk (y : List UInt8) : Bool := decide (stripE y = 0) && innerOk y && decide (decE (innerB y) = 0)
def openYE (L : List Thing) (s : List UInt8) (r : Record) (y : List UInt8) : Int :=
  if yOk y then (if (decV (innerB y)).writer = r.writer then (if innerT y = markB L s r.coll r.writer (innerB y) then 0 else 22) else 40) else 10
def openYL (L : List Thing) (s : List UInt8) (r : Record) (y : List UInt8) : List Thing := if yOk y ∧ (decV (innerB y)).writer = r.writer then markL L s r.coll r.writer (innerB y) else L
def openRE (L : List Thing) (s k : List UInt8) (r : Record) : Int :=
  if r.right then (if k.length = 32 then (match opened L k r with | some y => openYE L s r y | none => 20) else 21) else 10
def openRL (L : List Thing) (s k : List UInt8) (r : Record) : List Thing :=
  if r.right then (if k.length = 32 then (match opened L k r with | some y => openYL L s r y | none => L) else L) else L
def openRV (L : List Thing) (s k : List UInt8) (r : Record) : Entry :=
  if openRE L s k r = 0 then (match opened L k r with | some y => decV (innerB y) | none => entry0) else entry0
theorem first3 (p1 p2 p3 : Prop) : ¬ p1 ∨ (p1 ∧ ¬ p2) ∨ (p1 ∧ p2 ∧ ¬ p3) ∨ (p1 ∧ p2 ∧ p3) := by
  by_cases h1 : p1 <;> by_cases h2 : p2 <;> by_cases h3 : p3 <;> simp [h1, h2, h3]
theorem opened_cases (L : List Thing) (k : List UInt8) (r : Record) : r.right = false ∨ (r.right = true ∧ ¬ k.length = 32) ∨ (r.right = true ∧ k.length = 32 ∧ opened L k r = none) ∨ (r.right = true ∧ k.length = 32 ∧ ∃ y, opened L k r = some y) := by
  cases h : r.right with
  | false => exact .inl rfl
  | true =>
    by_cases h2 : k.length = 32
    · cases h3 : opened L k r with
      | none => exact .inr (.inr (.inl ⟨rfl, h2, rfl⟩))
      | some y => exact .inr (.inr (.inr ⟨rfl, h2, y, rfl⟩))
    · exact .inr (.inl ⟨rfl, h2⟩)
theorem stripB_le (l : List UInt8) : (stripB l).length ≤ l.length := by
  unfold stripB bstrip; split <;> simp; omega
theorem txt4096 (r : Rd) : (rdTxt r 0 4096).length ≤ 4096 := by rcases rdTxt_len r 0 4096 with h | h; omega; rw [h]; decide
theorem right_nums {r : Record} (h : r.right = true) : r.nums = true := by simp only [Record.right, Bool.and_eq_true] at h; exact h.1.1
theorem right_box {r : Record} (h : r.right = true) : 80 ≤ r.box.length ∧ r.box.length ≤ 2064 := by simp only [Record.right, Bool.and_eq_true, decide_eq_true_eq] at h; omega
theorem open_txt {L : List Thing} {k n o b y : List UInt8} (hT : ∀ t ∈ L, t.text.length ≤ 800000000) (h : openOf L k n o b = some y) : y.length ≤ 800000000 := by
  obtain ⟨m, hm, _⟩ := open_is h; exact hT _ (List.mem_of_getElem? hm.2)
theorem yno {y : List UInt8} (h : ¬ stripE y = 0 ∨ ¬ innerOk y = true ∨ ¬ decE (innerB y) = 0) : yOk y = false := by
  rw [yOk]; rcases h with h | h | h <;> simp [h]
theorem yyes {y : List UInt8} (h : stripE y = 0 ∧ innerOk y = true ∧ decE (innerB y) = 0) : yOk y = true := by rw [yOk]; simp [h]
end Go.Proofs.YtanpinfhlbbjkaaGreat

namespace Go.Proofs.YtanpinfhlbbjkaaGreat
open Go.RowKit Go.Ecal
theorem beN6 (a b c d e f : UInt8) : beN [a, b, c, d, e, f] = 256 * (256 * (256 * (256 * (256 * (a.toNat : Int) + b.toNat) + c.toNat) + d.toNat) + e.toNat) + f.toNat := by simp [beN]
theorem beN2 (a b : UInt8) : beN [a, b] = 256 * (a.toNat : Int) + b.toNat := by simp [beN]
theorem beN_be6 {n : Int} (h : 0 ≤ n ∧ n ≤ 1099511627776) : beN (be6 n) = n := by
  rw [be6, beN6]; simp only [bof_nat]; omega
theorem beN_be2 {n : Int} (h : 0 ≤ n ∧ n < 65536) : beN (be2 n) = n := by
  rw [be2, beN2]; simp only [bof_nat]; omega
theorem take_app {a x : List UInt8} {n : Int} (h : (a.length : Int) = n) : rdTake ⟨a ++ x, false⟩ n = a ∧ rdTakeS ⟨a ++ x, false⟩ n = ⟨x, false⟩ := by
  have hs : rdShort ⟨a ++ x, false⟩ n = false := by simp [rdShort]; omega
  subst h
  constructor
  · rw [rdTake, if_neg (by rw [hs]; decide)]; simp
  · rw [rdTakeS, if_neg (by rw [hs]; decide)]; simp
theorem rd_num {n lo hi : Int} {x : List UInt8} (h : 0 ≤ n ∧ n ≤ 1099511627776) (h1 : lo ≤ n ∧ n ≤ hi) : rdNum ⟨be6 n ++ x, false⟩ lo hi = n ∧ rdNumS ⟨be6 n ++ x, false⟩ lo hi = ⟨x, false⟩ := by
  obtain ⟨t1, t2⟩ := take_app (a := be6 n) (x := x) (n := 6) rfl
  have hg : rdGet ⟨be6 n ++ x, false⟩ 6 = n := by rw [rdGet, t1, beN_be6 h]
  have hm : rdNumS ⟨be6 n ++ x, false⟩ lo hi = ⟨x, false⟩ := by
    rw [rdNumS, rdMid, t2, hg]; simp; omega
  exact ⟨by rw [rdNum, hm, hg]; rfl, hm⟩
theorem rd_txt {t x : List UInt8} {lo hi : Int} (h : t.length < 65536) (h1 : lo ≤ (t.length : Int) ∧ (t.length : Int) ≤ hi) : rdTxt ⟨be2 (t.length : Int) ++ (t ++ x), false⟩ lo hi = t ∧ rdTxtS ⟨be2 (t.length : Int) ++ (t ++ x), false⟩ lo hi = ⟨x, false⟩ := by
  obtain ⟨t1, t2⟩ := take_app (a := be2 (t.length : Int)) (x := t ++ x) (n := 2) rfl
  have hg : rdGet ⟨be2 (t.length : Int) ++ (t ++ x), false⟩ 2 = (t.length : Int) := by rw [rdGet, t1, beN_be2 (by omega)]
  have hm : rdMid ⟨be2 (t.length : Int) ++ (t ++ x), false⟩ 2 lo hi = ⟨t ++ x, false⟩ := by
    rw [rdMid, t2, hg]; simp; omega
  obtain ⟨t3, t4⟩ := take_app (a := t) (x := x) (n := (t.length : Int)) rfl
  exact ⟨by rw [rdTxt, hm, hg, if_neg Bool.false_ne_true, t3], by rw [rdTxtS, hm, hg, if_neg Bool.false_ne_true, t4]⟩
def Record.flat (r : Record) : List UInt8 := be6 r.coll ++ (be6 r.epoch ++ (be6 r.writer ++ (be6 r.count ++ (be2 (r.box.length : Int) ++ r.box))))
theorem right_iff {r : Record} : r.right = true ↔ r.nums = true ∧ 80 ≤ (r.box.length : Int) ∧ (r.box.length : Int) ≤ 2064 := by
  simp only [Record.right, Bool.and_eq_true, decide_eq_true_eq, and_assoc]
theorem rec_put {r : Record} (h : r.right = true) : putE r.allParts = 0 ∧ r.encB = r.flat := by
  have hp := h
  rw [right_iff, nums_iff] at hp
  have h0 : putE r.allParts = 0 := by
    rw [putE_iff]; intro a ha
    simp only [Record.allParts, List.mem_cons, List.not_mem_nil, or_false] at ha
    rcases ha with rfl | rfl | rfl | rfl | rfl
    · exact numE_ok (by omega)
    · exact numE_ok (by omega)
    · exact numE_ok (by omega)
    · exact numE_ok (by omega)
    · exact if_pos (by omega)
  refine ⟨h0, ?_⟩
  rw [Record.encB, if_pos h, putB_ok h0]
  simp only [Record.allParts, List.map_cons, List.map_nil, partB, List.flatten_cons, List.flatten_nil, List.append_nil]
  rw [numB_ok (by omega), numB_ok (by omega), numB_ok (by omega), numB_ok (by omega), textB, if_pos (by omega)]; rfl
theorem rec_read {r : Record} (h : r.right = true) : recOk r.flat = true ∧ recV r.flat = r := by
  have hp := h
  rw [right_iff, nums_iff] at hp
  have h5 := rd_txt (t := r.box) (x := []) (lo := 80) (hi := 2064) (by omega) (by omega)
  rw [List.append_nil] at h5
  have h4 := rd_num (n := r.count) (lo := 1) (hi := 1099511627776) (x := be2 (r.box.length : Int) ++ r.box) (by omega) (by omega)
  have h3 := rd_num (n := r.writer) (lo := 1) (hi := 16) (x := be6 r.count ++ (be2 (r.box.length : Int) ++ r.box)) (by omega) (by omega)
  have h2 := rd_num (n := r.epoch) (lo := 0) (hi := 16) (x := be6 r.writer ++ (be6 r.count ++ (be2 (r.box.length : Int) ++ r.box))) (by omega) (by omega)
  have h1 := rd_num (n := r.coll) (lo := 1) (hi := 1099511627776) (x := be6 r.epoch ++ (be6 r.writer ++ (be6 r.count ++ (be2 (r.box.length : Int) ++ r.box)))) (by omega) (by omega)
  have hr : rdRec ⟨r.flat, false⟩ = (r, ⟨[], false⟩) := by
    simp only [rdRec, Record.flat, h1.1, h1.2, h2.1, h2.2, h3.1, h3.2, h4.1, h4.2, h5.1, h5.2]
  have ho : recOk r.flat = true := by rw [recOk, hr]; rfl
  exact ⟨ho, by rw [recV, if_pos ho, hr]⟩
theorem flat_len (r : Record) : r.flat.length = 26 + r.box.length := by simp [Record.flat, be6, be2]; omega
theorem enc_len {r : Record} (hr : r.right = true) : r.encB.length = 26 + r.box.length := by rw [(rec_put hr).2, flat_len]
end Go.Proofs.YtanpinfhlbbjkaaGreat
