import Derived.Laws.ComplexArith
import Derived.Laws.Cover2
import Derived.Lib.SmallJoins
import Derived.Test.YthddplghlljdbaaGreatQWorldPostEcal
set_option linter.unusedVariables false
set_option linter.unusedSimpArgs false
set_option exponentiation.threshold 2000
namespace Go.Proofs.YthddplghlljdbaaGreat
open Go.RowKit Go.Ecal
section
open Ieee
def sg (s:Bool) (m:Nat):Int:=if s then -(m:Int) else m
theorem signed_sg (s:Bool) (m k:Nat):signed s m k=sg s m*2 ^ k:=by
 unfold signed sg
 rw [Nat.shiftLeft_eq]
 cases s<;>simp [Int.neg_mul]
/-- The datum is the whole number n. -/
def IsI (d:Datum) (n:Int):Prop:=∃s m e,d=.number s m e∧∃p:Nat,0≤e+p∧sg s m*2 ^ (e+p).toNat=n*2 ^ p
theorem two_pos (k:Nat):(0:Int)<2 ^ k:=Int.pow_pos (by decide)
theorem isI_up {s : Bool} {m : Nat} {e : Int} {n : Int} {p : Nat} (h0 : 0 ≤ e + p) (h : sg s m * 2 ^ (e + p).toNat = n * 2 ^ p) : ∀ q : Nat, 0 ≤ e + q → sg s m * 2 ^ (e + q).toNat = n * 2 ^ q := by
  intro q hq
  rcases Nat.le_total p q with hpq | hpq
  · obtain ⟨k, rfl⟩ := Nat.exists_eq_add_of_le hpq
    have e1 : (e + ((p + k : Nat) : Int)).toNat = (e + p).toNat + k := by omega
    rw [e1, Int.pow_add, Int.pow_add, ← Int.mul_assoc, ← Int.mul_assoc, h]
  · obtain ⟨k, rfl⟩ := Nat.exists_eq_add_of_le hpq
    have e1 : (e + ((q + k : Nat) : Int)).toNat = (e + q).toNat + k := by omega
    rw [e1, Int.pow_add, Int.pow_add, ← Int.mul_assoc, ← Int.mul_assoc] at h
    exact Int.eq_of_mul_eq_mul_right (by have := two_pos k; omega) h
theorem isI_number {s:Bool} {m:Nat} {e:Int} {n:Int} (h:IsI (.number s m e) n):∀q:Nat,0≤e+q→sg s m*2 ^ (e+q).toNat=n*2 ^ q:=by
 obtain ⟨s',m',e',h1,p,h0,h2⟩:=h
 cases h1
 exact isI_up h0 h2
theorem scale {s:Bool} {m:Nat} {i:Int} {a base:Int} (h:IsI (.number s m i) a) (hb:base≤i) (q:Nat) (hq:0≤base+q):signed s m (i-base).toNat*2 ^ (base+q).toNat=a*2 ^ q:=by
 rw [signed_sg,Int.mul_assoc,←Int.pow_add,←isI_number h q (by omega)]
 congr 2;omega
theorem compare_scale {A B a b:Int} {p q:Nat} (hA:A*2 ^ p=a*2 ^ q) (hB:B*2 ^ p=b*2 ^ q):compare A B=compare a b:=by
 have hp:=two_pos p;have hq:=two_pos q
 have l1:A<B↔a<b:=by
  rw [←Int.mul_lt_mul_right hp,hA,hB,Int.mul_lt_mul_right hq]
 have l2:B<A↔b<a:=by
  rw [←Int.mul_lt_mul_right hp,hA,hB,Int.mul_lt_mul_right hq]
 rcases Int.lt_trichotomy a b with h | h | h
 ·rw [Int.compare_eq_lt.2 h,Int.compare_eq_lt.2 (l1.2 h)]
 ·subst h
  have:A=B:=by omega
  rw [this];simp
 ·rw [Int.compare_eq_gt.2 h,Int.compare_eq_gt.2 (l2.2 h)]
theorem order_is {x y:Datum} {a b:Int} (hx:IsI x a) (hy:IsI y b):x.order y=some (compare a b):=by
 obtain ⟨s,m,i,rfl,_⟩:=id hx
 obtain ⟨t,n,j,rfl,_⟩:=id hy
 simp only [Datum.order,Option.some.injEq]
 have hq:0≤min i j+((-(min i j)).toNat:Int):=by omega
 exact compare_scale (scale hx (by omega) _ hq) (scale hy (by omega) _ hq)
theorem sum_is {x y:Datum} {a b:Int} (hx:IsI x a) (hy:IsI y b):∃d,x.sum y=some d∧IsI d (a+b):=by
 obtain ⟨s,m,i,rfl,_⟩:=id hx
 obtain ⟨t,n,j,rfl,_⟩:=id hy
 refine ⟨_,rfl,_,_,_,rfl,(-(min i j)).toNat,by omega,?_⟩
 have hq:0≤min i j+((-(min i j)).toNat:Int):=by omega
 have h1:=scale hx (show min i j≤i by omega) _ hq
 have h2:=scale hy (show min i j≤j by omega) _ hq
 generalize signed s m (i-min i j).toNat=A at *
 generalize signed t n (j-min i j).toNat=B at *
 have e:sg (if A+B=0 then s&&t else decide (A+B<0)) (A+B).natAbs=A+B:=by
  unfold sg
  split<;>split at*<;> simp_all<;>omega
 rw [e,Int.add_mul,h1,h2,Int.add_mul]
theorem cut_exact (way:Toward) (neg:Bool) {n drop K:Nat} (h:n=K*2 ^ drop) (hK:0<K):way.cut neg n drop=K:=by
 have hl:drop≤n.log2:=(Nat.le_log2 (by rw [h];exact Nat.ne_of_gt (Nat.mul_pos hK (Nat.pow_pos (by decide))))).2 (by rw [h];exact Nat.le_mul_of_pos_left _ hK)
 have hm:min drop (n.log2+2)=drop:=by omega
 have hg:1 <<< min drop (n.log2+2)=2 ^ drop:=by rw [hm,Nat.shiftLeft_eq,Nat.one_mul]
 have hp:0<2 ^ drop:=Nat.pow_pos (by decide)
 have h1:n / 2 ^ drop=K:=by rw [h];exact Nat.mul_div_cancel _ hp
 have h2:n % 2 ^ drop=0:=by rw [h];exact Nat.mul_mod_left _ _
 unfold Toward.cut
 simp only [hg,h1,h2]
 cases way<;>simp<;>omega
theorem cut_zero (neg:Bool) (n drop:Nat):Toward.zero.cut neg n drop=n / 2 ^ drop:=by
 unfold Toward.cut
 simp only [Bool.toNat_false,Nat.add_zero,Nat.shiftLeft_eq,Nat.one_mul]
 rcases Nat.le_total drop (n.log2+2) with h | h
 ·rw [Nat.min_eq_left h]
 ·rw [Nat.min_eq_right h]
  have h1:n<2 ^ (n.log2+2):=Nat.lt_of_lt_of_le Nat.lt_log2_self (Nat.pow_le_pow_right (by decide) (by omega))
  have h2:n<2 ^ drop:=Nat.lt_of_lt_of_le h1 (Nat.pow_le_pow_right (by decide) h)
  rw [Nat.div_eq_of_lt h1,Nat.div_eq_of_lt h2]
theorem word_read_number (s : Bool) {r : Nat} (h1 : 2 ^ 52 ≤ r) (h2 : r < 2047 * 2 ^ 52) : double.read (double.word s r) = .number s (2 ^ 52 + r % 2 ^ 52) (-1074 + (r / 2 ^ 52 - 1 : Nat)) := by
  have hw : double.signWeight = 2 ^ 63 := rfl
  have hb : double.binade = 2 ^ 52 := rfl
  have hi : double.infRung = 2047 * 2 ^ 52 := rfl
  have hl : double.leastPlace = -1074 := rfl
  unfold Format.read Format.word
  rw [hw, hb, hi, hl]
  have e1 : (if s = true then 2 ^ 63 + r else r) % 2 ^ 63 = r := by cases s <;> simp <;> omega
  have e2 : ((if s = true then 2 ^ 63 + r else r) / 2 ^ 63 % 2 == 1) = s := by
    cases s
    · have : r / 2 ^ 63 % 2 = 0 := by omega
      simp [this]
    · have : (2 ^ 63 + r) / 2 ^ 63 % 2 = 1 := by omega
      rw [if_pos rfl, this]; rfl
  simp only [e1, e2]
  rw [if_neg (by omega), if_pos (by omega)]
theorem word_read_zero (s:Bool):double.read (double.word s 0)=.number s 0 (-1074):=by cases s<;>rfl
theorem log_eq {m L k:Nat} {p:Nat} (h:m*2 ^ k=p*2 ^ L) (hm:0<m) (hp:0<p):m.log2+k=p.log2+L:=by
 have h1:(m*2 ^ k).log2=m.log2+k:=by
  rw [Nat.log2_eq_iff (Nat.ne_of_gt (Nat.mul_pos hm (Nat.pow_pos (by decide))))]
  have:=Nat.log2_self_le (Nat.ne_of_gt hm);have h2:=@Nat.lt_log2_self m
  constructor
  ·rw [Nat.pow_add];exact Nat.mul_le_mul_right _ this
  ·rw [Nat.pow_succ,Nat.pow_add,Nat.mul_right_comm,←Nat.pow_succ];exact Nat.mul_lt_mul_of_pos_right h2 (Nat.pow_pos (by decide))
 have h3:(p*2 ^ L).log2=p.log2+L:=by
  rw [Nat.log2_eq_iff (Nat.ne_of_gt (Nat.mul_pos hp (Nat.pow_pos (by decide))))]
  have:=Nat.log2_self_le (Nat.ne_of_gt hp);have h2:=@Nat.lt_log2_self p
  constructor
  ·rw [Nat.pow_add];exact Nat.mul_le_mul_right _ this
  ·rw [Nat.pow_succ,Nat.pow_add,Nat.mul_right_comm,←Nat.pow_succ];exact Nat.mul_lt_mul_of_pos_right h2 (Nat.pow_pos (by decide))
 rw [←h1,←h3,h]
theorem write_is {d : Datum} {n : Int} (h : IsI d n) (hn : n.natAbs < 2 ^ 53) : IsI (double.read (double.write d)) n := by
  obtain ⟨s, m, e, rfl, p, h0, h1⟩ := h
  simp only [Format.write]
  unfold Format.nearest
  by_cases hm : m = 0
  · subst hm
    rw [if_pos rfl, word_read_zero]
    have : n = 0 := by
      have e : sg s 0 = 0 := by cases s <;> rfl
      rw [e, Int.zero_mul] at h1
      rcases Int.mul_eq_zero.1 h1.symm with h | h
      · exact h
      · have := two_pos p; omega
    subst this
    exact ⟨s, 0, -1074, rfl, 1074, by omega, by cases s <;> simp [sg]⟩
  · rw [if_neg hm]
    have hm0 : 0 < m := Nat.pos_of_ne_zero hm
    -- in whole numbers
    have hN : m * 2 ^ (e + p).toNat = n.natAbs * 2 ^ p := by
      have := congrArg Int.natAbs h1
      rw [Int.natAbs_mul, Int.natAbs_mul] at this
      have e1 : (sg s m).natAbs = m := by cases s <;> simp [sg]
      rw [e1, Int.natAbs_pow, Int.natAbs_pow] at this
      exact this
    have hn0 : 0 < n.natAbs := by
      rcases Nat.eq_zero_or_pos n.natAbs with h | h
      · rw [h, Nat.zero_mul] at hN
        have := Nat.mul_pos hm0 (Nat.pow_pos (n := (e + p).toNat) (show 0 < 2 by decide)); omega
      · exact h
    have hs : sg s n.natAbs = n := by
      have hsm : (0 < sg s m ↔ s = false) := by cases s <;> simp [sg] <;> omega
      have h2 := two_pos (e + p).toNat; have h3 := two_pos p
      cases s
      · have : 0 < n * 2 ^ p := by rw [← h1]; exact Int.mul_pos (by simp [sg]; omega) h2
        have : 0 < n := Int.pos_of_mul_pos_left this h3 |> fun x => x
        simp [sg]; omega
      · have : n * 2 ^ p < 0 := by rw [← h1]; exact Int.mul_neg_of_neg_of_pos (by simp [sg]; omega) h2
        have : n < 0 := by
          by_cases hh : n < 0
          · exact hh
          · have := Int.mul_nonneg (show 0 ≤ n by omega) (Int.le_of_lt h3); omega
        simp [sg]; omega
    have hlog := log_eq hN hm0 hn0
    have hL : n.natAbs.log2 ≤ 52 := by
      have := (Nat.log2_lt (Nat.ne_of_gt hn0)).2 hn; omega
    have hlast : max (e + m.log2 - double.fractionBits) double.leastPlace = (n.natAbs.log2 : Int) - 52 := by
      have hf : (double.fractionBits : Int) = 52 := rfl
      have hl : double.leastPlace = -1074 := rfl
      rw [hf, hl]; omega
    rw [hlast]
    generalize hLL : n.natAbs.log2 = L at *
    -- what is kept
    have hK : Toward.even.cut s (m <<< (e - ((L : Int) - 52)).toNat) ((L : Int) - 52 - e).toNat = n.natAbs * 2 ^ (52 - L) := by
      apply cut_exact
      · rw [Nat.shiftLeft_eq]
        have key : m * 2 ^ (e - ((L : Int) - 52)).toNat * 2 ^ (e + p).toNat = n.natAbs * 2 ^ (52 - L) * 2 ^ ((L : Int) - 52 - e).toNat * 2 ^ (e + p).toNat := by
          have e1 : m * 2 ^ (e - ((L : Int) - 52)).toNat * 2 ^ (e + p).toNat = m * 2 ^ (e + p).toNat * 2 ^ (e - ((L : Int) - 52)).toNat := by
            rw [Nat.mul_right_comm]
          rw [e1, hN, Nat.mul_assoc, Nat.mul_assoc, Nat.mul_assoc, ← Nat.pow_add, ← Nat.pow_add, ← Nat.pow_add]
          congr 2; omega
        exact Nat.eq_of_mul_eq_mul_right (Nat.pow_pos (by decide)) key
      · exact Nat.mul_pos hn0 (Nat.pow_pos (by decide))
    show IsI (double.read (double.word s (min (((L : Int) - 52 - double.leastPlace).toNat * double.binade + Toward.even.cut s (m <<< (e - ((L : Int) - 52)).toNat) ((L : Int) - 52 - e).toNat) double.infRung))) n
    rw [hK]
    have hb : double.binade = 2 ^ 52 := rfl
    have hi : double.infRung = 2047 * 2 ^ 52 := rfl
    have hl : double.leastPlace = -1074 := rfl
    rw [hb, hi, hl]
    have hlo : 2 ^ 52 ≤ n.natAbs * 2 ^ (52 - L) := by
      have := Nat.log2_self_le (Nat.ne_of_gt hn0)
      rw [hLL] at this
      calc 2 ^ 52 = 2 ^ L * 2 ^ (52 - L) := by rw [← Nat.pow_add]; congr 1; omega
        _ ≤ _ := Nat.mul_le_mul_right _ this
    have hhi : n.natAbs * 2 ^ (52 - L) < 2 ^ 53 := by
      have := @Nat.lt_log2_self n.natAbs
      rw [hLL] at this
      calc n.natAbs * 2 ^ (52 - L) < 2 ^ (L + 1) * 2 ^ (52 - L) := Nat.mul_lt_mul_of_pos_right this (Nat.pow_pos (by decide))
        _ = 2 ^ 53 := by rw [← Nat.pow_add]; congr 1; omega
    generalize hKK : n.natAbs * 2 ^ (52 - L) = K at *
    have ht : ((L : Int) - 52 - -1074).toNat = L + 1022 := by omega
    rw [ht, Nat.min_eq_left (by omega), word_read_number s (by omega) (by omega)]
    have r1 : ((L + 1022) * 2 ^ 52 + K) % 2 ^ 52 = K - 2 ^ 52 := by omega
    have r2 : ((L + 1022) * 2 ^ 52 + K) / 2 ^ 52 = L + 1023 := by omega
    rw [r1, r2]
    refine ⟨s, _, _, rfl, 52 - L, by omega, ?_⟩
    have e1 : (-1074 + ((L + 1023 - 1 : Nat) : Int) + ((52 - L : Nat) : Int)).toNat = 0 := by omega
    have e2 : 2 ^ 52 + (K - 2 ^ 52) = K := by omega
    rw [e1, e2, Int.pow_zero, Int.mul_one, ← hKK]
    have e3 : sg s (n.natAbs * 2 ^ (52 - L)) = sg s n.natAbs * 2 ^ (52 - L) := by cases s <;> simp [sg, Int.neg_mul]
    rw [e3, hs]
theorem integral_is {d : Datum} {n : Int} (h : IsI d n) : IsI (d.integral .zero) n ∧ d.toInt .zero = some n := by
  obtain ⟨s, m, e, rfl, p, h0, h1⟩ := h
  have key : sg s ((m <<< e.toNat) / 2 ^ (-e).toNat) = n := by
    have h2 := isI_up h0 h1
    rcases Int.le_total 0 e with he | he
    · have h3 := h2 0 (by omega)
      rw [show (-e).toNat = 0 from by omega, Nat.pow_zero, Nat.div_one, Nat.shiftLeft_eq]
      have e3 : sg s (m * 2 ^ e.toNat) = sg s m * 2 ^ e.toNat := by cases s <;> simp [sg, Int.neg_mul]
      rw [e3]; simpa using h3
    · have h3 := h2 (-e).toNat (by omega)
      rw [show (e + ((-e).toNat : Int)).toNat = 0 from by omega, Int.pow_zero, Int.mul_one] at h3
      rw [show e.toNat = 0 from by omega, Nat.shiftLeft_zero]
      have hm : m = n.natAbs * 2 ^ (-e).toNat := by
        have := congrArg Int.natAbs h3
        rw [Int.natAbs_mul, Int.natAbs_pow] at this
        have e1 : (sg s m).natAbs = m := by cases s <;> simp [sg]
        rw [e1] at this; exact this
      have hp : 0 < 2 ^ (-e).toNat := Nat.pow_pos (by decide)
      have hd : m / 2 ^ (-e).toNat = n.natAbs := by rw [hm]; exact Nat.mul_div_cancel _ hp
      rw [hd]
      cases s
      · have : 0 ≤ n * 2 ^ (-e).toNat := by rw [← h3]; simp [sg]
        have : 0 ≤ n := by
          by_cases hh : 0 ≤ n
          · exact hh
          · have := Int.mul_neg_of_neg_of_pos (show n < 0 by omega) (two_pos (-e).toNat); omega
        simp [sg]; omega
      · have : n * 2 ^ (-e).toNat ≤ 0 := by rw [← h3]; simp [sg]
        have : n ≤ 0 := by
          by_cases hh : n ≤ 0
          · exact hh
          · have := Int.mul_pos (show 0 < n by omega) (two_pos (-e).toNat); omega
        simp [sg]; omega
  constructor
  · refine ⟨s, _, 0, rfl, 0, by omega, ?_⟩
    rw [cut_zero]; simpa using key
  · simp only [Datum.toInt, Datum.integral]
    rw [cut_zero, signed_sg, key]; simp
end
/-- The word stands for the whole number n. -/
def Fw (x:Nat) (n:Int):Prop:=IsI (Ieee.double.read x) n
def fw (n:Int):Nat:=FloatKind.nearest .f64 n
theorem isI_int (n:Int):IsI (.number (decide (n<0)) n.natAbs 0) n:=by
 refine ⟨_,_,_,rfl,0,by omega,?_⟩
 have:sg (decide (n<0)) n.natAbs=n:=by
  unfold sg
  by_cases h:n<0
  ·simp only [h,decide_true,if_true];omega
  ·simp only [h,decide_false];simp;omega
 simp [this]
theorem fw_is {n:Int} (h:n.natAbs<2 ^ 53):Fw (fw n) n:=write_is (isI_int n) h
theorem fadd {x y:Nat} {a b:Int} (hx:Fw x a) (hy:Fw y b) (h:(a+b).natAbs<2 ^ 53):∃z,floatBits .add .f64 x y=some z∧Fw z (a+b):=by
 obtain ⟨d,h1,h2⟩:=sum_is hx hy
 exact ⟨_,by show Option.map Ieee.double.write ((Ieee.double.read x).sum (Ieee.double.read y))=_;rw [h1];rfl,write_is h2 h⟩
theorem forder {x y:Nat} {a b:Int} (hx:Fw x a) (hy:Fw y b):FloatKind.f64.format.order x y=some (compare a b):=order_is hx hy
theorem cmp_le (a b:Int):(some (compare a b) == some Ordering.lt||some (compare a b) == some Ordering.eq)=decide (a≤b):=by
 rcases Int.lt_trichotomy a b with h | h | h
 ·rw [Int.compare_eq_lt.2 h];simp;omega
 ·subst h;simp
 ·rw [Int.compare_eq_gt.2 h];simp;omega
theorem cmp_ge (a b:Int):(some (compare a b) == some Ordering.gt||some (compare a b) == some Ordering.eq)=decide (b≤a):=by
 rcases Int.lt_trichotomy a b with h | h | h
 ·rw [Int.compare_eq_lt.2 h];simp;omega
 ·subst h;simp
 ·rw [Int.compare_eq_gt.2 h];simp;omega
theorem cmp_eq (a b:Int):(some (compare a b) == some Ordering.eq)=decide (a=b):=by
 rcases Int.lt_trichotomy a b with h | h | h
 ·rw [Int.compare_eq_lt.2 h];simp;omega
 ·subst h;simp
 ·rw [Int.compare_eq_gt.2 h];simp;omega
theorem fw_const {x:Nat} {n:Int} (h:x=fw n) (hn:n.natAbs<2 ^ 53):Fw x n:=by rw [h];exact fw_is hn
section
variable {P : Program} {E : Env} {w : World} {dst : Option Tmp} {ty t t2 : TypeId} {pos : String} {aft : Array Edge} {gd : Option (Nat × Bool)} {x y : Operand} {u v u2 v2 : Nat} {a b c d : Int}
theorem r_fleq (hx:ev E x=.float .f64 u) (hy:ev E y=.float .f64 v) (ha:Fw u a) (hb:Fw v b):Gives P E w ⟨dst,.binOp .leq t x y t2,ty,pos,aft,gd⟩ (.bool (decide (a≤b))) w:=by
 simp only [Gives,execOp,hx,hy];simp only [eqGuard,binOp,Op.floatCmp,forder ha hb,cmp_le];rfl
theorem r_fgeq (hx:ev E x=.float .f64 u) (hy:ev E y=.float .f64 v) (ha:Fw u a) (hb:Fw v b):Gives P E w ⟨dst,.binOp .geq t x y t2,ty,pos,aft,gd⟩ (.bool (decide (b≤a))) w:=by
 simp only [Gives,execOp,hx,hy];simp only [eqGuard,binOp,Op.floatCmp,forder ha hb,cmp_ge];rfl
theorem r_feql (hx:ev E x=.float .f64 u) (hy:ev E y=.float .f64 v) (ha:Fw u a) (hb:Fw v b):Gives P E w ⟨dst,.binOp .eql t x y t2,ty,pos,aft,gd⟩ (.bool (decide (a=b))) w:=by
 simp only [Gives,execOp,hx,hy];simp only [eqGuard,binOp,Op.floatCmp,forder ha hb,cmp_eq];rfl
theorem r_ceql (hx:ev E x=.complex .f64 u v) (hy:ev E y=.complex .f64 u2 v2) (ha:Fw u a) (hb:Fw v b) (hc:Fw u2 c) (hd:Fw v2 d):Gives P E w ⟨dst,.binOp .eql t x y t2,ty,pos,aft,gd⟩ (.bool (decide (a=c)&&decide (b=d))) w:=by
 simp only [Gives,execOp,hx,hy]
 simp [eqGuard,binOp,Op.complexOp,Op.Complex.cmp,Op.floatCmp,forder ha hc,forder hb hd,asBool]
 rw [←cmp_eq a c,←cmp_eq b d];simp
theorem r_csum {op:BinOp} (hop:op=.add∨op=.sub) {re im:Nat} (hx:ev E x=.complex .f64 u v) (hy:ev E y=.complex .f64 u2 v2) (h1:floatBits op .f64 u u2=some re) (h2:floatBits op .f64 v v2=some im):Gives P E w ⟨dst,.binOp op t x y t2,ty,pos,aft,gd⟩ (.complex .f64 re im) w:=by
 have h:=run_complex_sum (P:=P) w op hop t .f64 u v u2 v2 re im (by simp [cSumBits,h1,h2])
 simp only [Gives,execOp,hx,hy]
 rcases hop with rfl | rfl<;>simp [eqGuard,h]
theorem r_real {ats:Array TypeId} (hx:ev E x=.complex .f64 u v):Gives P E w ⟨dst,.call { callee:=.builtin .real,args:=#[x],argTypes:=ats },ty,pos,aft,gd⟩ (.float .f64 u) w:=by
 refine run_enterBuiltin .real #[x] ats _ _ (Builtin.real_ ats ty #[.complex .f64 u v]) (fun c=>by simp [builtin,hx]) ?_
 rfl
theorem r_imag {ats:Array TypeId} (hx:ev E x=.complex .f64 u v):Gives P E w ⟨dst,.call { callee:=.builtin .imag,args:=#[x],argTypes:=ats },ty,pos,aft,gd⟩ (.float .f64 v) w:=by
 refine run_enterBuiltin .imag #[x] ats _ _ (Builtin.imag_ ats ty #[.complex .f64 u v]) (fun c=>by simp [builtin,hx]) ?_
 rfl
theorem r_complex {ats:Array TypeId} (hx:ev E x=.float .f64 u) (hy:ev E y=.float .f64 v):Gives P E w ⟨dst,.call { callee:=.builtin .complex,args:=#[x,y],argTypes:=ats },ty,pos,aft,gd⟩ (.complex .f64 u v) w:=by
 refine run_enterBuiltin .complex #[x,y] ats _ _ (Builtin.complex_ ats ty #[.float .f64 u,.float .f64 v]) (fun c=>by simp [builtin,hx,hy]) ?_
 rfl
theorem r_i2f {src dt:TypeId} {q:IntKind} (hx:ev E x=.int q a) (hs:(P.underlying src).isSome=true) (hd:P.underlying dt=some (.float .f64)):Gives P E w ⟨dst,.convert src dt x,ty,pos,aft,gd⟩ (.float .f64 (fw a)) w:=by
 have h:=run_convert_int_float (P:=P) w src dt q .f64 a hs hd
 simp only [Gives,execOp,hx]
 simp [h];rfl
end
end Go.Proofs.YthddplghlljdbaaGreat
