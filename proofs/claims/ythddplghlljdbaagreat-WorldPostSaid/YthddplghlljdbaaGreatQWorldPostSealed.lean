import Derived.Test.YthddplghlljdbaaGreatQWorldPostBucket
import Derived.Test.YthddplghlljdbaaGreatQWorldPostSuite
set_option linter.unusedVariables false
set_option linter.unusedSimpArgs false
namespace Go.Proofs.YthddplghlljdbaaGreat
open Go.RowKit Go.Ecal
theorem bof_nat (x:Int):((bof x).toNat:Int)=x % 256:=by
 have:=congrArg (fun v=>match v with | Value.int _ n=>n | _=>0) (bof_val x)
 simpa [byt] using this.symm
theorem sign_len (c:UInt8) (n:Int):(signOf c n).length=32:=rfl
theorem box_len {n:Int} {m:Nat}:(boxOf n m).length=m+16:=by simp [boxOf,be8]
/-- t has the number n in L. -/
def At (L:List Thing) (n:Int) (t:Thing):Prop:=1≤n∧L[(n-1).toNat]?=some t
theorem szOk_iff {k n:List UInt8}:szOk k n=true↔k.length=32∧n.length=12:=by simp [szOk];omega
/-- What is opened is boxed. -/
theorem open_is {L:List Thing} {k n o b x:List UInt8} (h:openOf L k n o b=some x):∃m:Int,At L m (tBox k n o x)∧b=boxOf m x.length:=by
 unfold openOf at h
 split at h
 ·cases h
 split at h
 ·cases h
 split at h
 ·cases h
 ·rename_i h1 h2 t ht
  split at h
  ·rename_i hc
   obtain ⟨hc1,hc2⟩:=hc
   simp only [Option.some.injEq] at h
   subst h
   refine ⟨numOf (b.drop (b.length-8)),⟨by omega,?_⟩,hc2.symm⟩
   rw [←hc1,show (((numOf (b.drop (b.length-8)):Nat):Int)-1).toNat=numOf (b.drop (b.length-8))-1 by omega]
   exact ht
  ·cases h
/-- The key that was drawn last,behind j of them. -/
def keyOf (j:Nat):List UInt8:=if j=0 then [] else signOf 75 (j:Int)
theorem small_snoc {L:List Thing} {t:Thing} (h:∀t∈L,t.text.length≤800000000) (ht:t.text.length≤800000000):∀u∈L++[t],u.text.length≤800000000:=by
 intro u hu;rcases List.mem_append.1 hu with h1 | h1
 ·exact h u h1
 ·simp only [List.mem_singleton] at h1;rw [h1];exact ht
theorem small_once {L:List Thing} {t:Thing} (h:∀t∈L,t.text.length≤800000000) (ht:t.text.length≤800000000):∀u∈onceL t L,u.text.length≤800000000:=by
 cases hi:idx t L with
 | none=>simp only [onceL,hi];exact small_snoc h ht
 | some i=>simpa [onceL,hi] using h
/-- Texts of so many bytes at most. -/
def Texts (n:Nat) (L:List Thing):Prop:=∀t∈L,t.text.length≤n
theorem Texts.nil {n:Nat}:Texts n []:=fun t h=>by cases h
theorem Texts.snoc {n:Nat} {L:List Thing} {t:Thing} (h:Texts n L) (ht:t.text.length≤n):Texts n (L++[t]):=by
 intro u hu;rcases List.mem_append.1 hu with h1 | h1
 ·exact h u h1
 ·simp only [List.mem_singleton] at h1;rw [h1];exact ht
theorem Texts.once {n:Nat} {L:List Thing} {t:Thing} (h:Texts n L) (ht:t.text.length≤n):Texts n (onceL t L):=by
 cases hi:idx t L with
 | none=>simp only [onceL,hi];exact h.snoc ht
 | some i=>simpa [onceL,hi] using h
end Go.Proofs.YthddplghlljdbaaGreat

namespace Go.Proofs.YthddplghlljdbaaGreat
open Go.RowKit Go.Ecal
abbrev uMember:List UInt8:=[109,101,109,98,101,114]
abbrev uWriter:List UInt8:=[119,114,105,116,101,114]
abbrev uEpoch:List UInt8:=[101,112,111,99,104]
abbrev uWrap:List UInt8:=[119,114,97,112]
/-- What a key for a use,of a number,is the code of. -/
abbrev derT (s use:List UInt8) (n:Int):Thing:=tCode s (use++be6 n)
def keyFor (L:List Thing) (s use:List UInt8) (n:Int):List UInt8:=signOf 77 (onceN (derT s use n) L:Int)
def rightW (n:Int):Bool:=decide (1≤n)&&decide (n≤16)
def spotW (w e:Int):Bool:=rightW w&&(decide (1≤e)&&decide (e≤16))
theorem rightW_iff {n:Int}:rightW n=true↔1≤n∧n≤16:=by simp [rightW]
theorem spotW_iff {w e:Int}:spotW w e=true↔(1≤w∧w≤16)∧1≤e∧e≤16:=by simp [spotW,rightW]
def rightE (n:Int):Int:=if rightW n then 0 else 12
def rightB (L:List Thing) (s use:List UInt8) (n:Int):List UInt8:=if rightW n then keyFor L s use n else []
def rightL (L:List Thing) (s use:List UInt8) (n:Int):List Thing:=if rightW n then onceL (derT s use n) L else L
def nonceOk (a b:Int):Bool:=decide (0≤a∧a≤4294967295∧0≤b∧b≤1099511627776)
def nonceE (a b:Int):Int:=if nonceOk a b then 0 else 12
def nonceB (a b:Int):List UInt8:=if nonceOk a b then be6 a++be6 b else []
theorem nonceOk_iff {a b:Int}:nonceOk a b=true↔0≤a∧a≤4294967295∧0≤b∧b≤1099511627776:=by simp [nonceOk]
def wrapE (w e:Int) (k:List UInt8):Int:=if spotW w e then (if k.length=32 then 0 else 11) else 12
def wrapT (L:List Thing) (s:List UInt8) (w e:Int) (k:List UInt8):Thing:=tBox (keyFor L s uMember w) (be6 0++be6 e) uWrap k
def wrapB (L:List Thing) (s:List UInt8) (w e:Int) (k:List UInt8):List UInt8:=if wrapE w e k=0 then boxOf (((onceL (derT s uMember w) L).length:Int)+1) 32 else []
def wrapL (L:List Thing) (s:List UInt8) (w e:Int) (k:List UInt8):List Thing:=if wrapE w e k=0 then onceL (derT s uMember w) L++[wrapT L s w e k] else L
def unwrapO (L:List Thing) (s:List UInt8) (w e:Int) (b:List UInt8):Option (List UInt8):=
 match openOf (onceL (derT s uMember w) L) (keyFor L s uMember w) (be6 0++be6 e) uWrap b with
 | some y=>if y.length=32 then some y else none
 | none=>none
def unwrapE (L:List Thing) (s:List UInt8) (w e:Int) (b:List UInt8):Int:=if spotW w e then (match unwrapO L s w e b with | some _=>0 | none=>20) else 12
def unwrapB (L:List Thing) (s:List UInt8) (w e:Int) (b:List UInt8):List UInt8:=if spotW w e then (unwrapO L s w e b).getD [] else []
def unwrapL (L:List Thing) (s:List UInt8) (w e:Int):List Thing:=if spotW w e then onceL (derT s uMember w) L else L
theorem key_sz {L:List Thing} {s use:List UInt8} {n a b:Int}:szOk (keyFor L s use n) (be6 a++be6 b)=true:=szOk_iff.2 ⟨rfl,rfl⟩
theorem unw_no {L:List Thing} {s b:List UInt8} {w e:Int} (h:¬openE (onceL (derT s uMember w) L) (keyFor L s uMember w) (be6 0++be6 e) uWrap b=0∨¬((openB (onceL (derT s uMember w) L) (keyFor L s uMember w) (be6 0++be6 e) uWrap b).length:Int)=32):unwrapO L s w e b=none:=by
 unfold unwrapO
 simp only [openE,openB,key_sz,if_true] at h
 cases ho:openOf (onceL (derT s uMember w) L) (keyFor L s uMember w) (be6 0++be6 e) uWrap b with
 | none=>rfl
 | some y =>
  rw [ho] at h
  show (if y.length=32 then some y else none)=none
  rcases h with h | h
  ·exact absurd rfl h
  ·rw [if_neg (fun e=>h (show ((y.length:Nat):Int)=32 by omega))]
theorem unw_yes {L:List Thing} {s b:List UInt8} {w e:Int} (h:openE (onceL (derT s uMember w) L) (keyFor L s uMember w) (be6 0++be6 e) uWrap b=0) (h2:((openB (onceL (derT s uMember w) L) (keyFor L s uMember w) (be6 0++be6 e) uWrap b).length:Int)=32):unwrapO L s w e b=some (openB (onceL (derT s uMember w) L) (keyFor L s uMember w) (be6 0++be6 e) uWrap b):=by
 unfold unwrapO
 simp only [openE,openB,key_sz,if_true] at h h2 ⊢
 cases ho:openOf (onceL (derT s uMember w) L) (keyFor L s uMember w) (be6 0++be6 e) uWrap b with
 | none=>simp [ho] at h
 | some y =>
  rw [ho] at h2
  have h3:((y.length:Nat):Int)=32:=h2
  show (if y.length=32 then some y else none)=some y
  rw [if_pos (by omega)]
theorem rightL_len (L:List Thing) (s use:List UInt8) (n:Int):(rightL L s use n).length≤L.length+1:=by
 unfold rightL;split
 ·exact onceL_len _ _
 ·omega
theorem rightB_len (L:List Thing) (s use:List UInt8) (n:Int):(rightB L s use n).length≤32:=by
 unfold rightB;split
 ·rw [keyFor,sign_len];decide
 ·simp
end Go.Proofs.YthddplghlljdbaaGreat

namespace Go.Proofs.YthddplghlljdbaaGreat
open Go.RowKit Go.Ecal
structure Record where
 coll:Int
 epoch:Int
 writer:Int
 count:Int
 box:List UInt8
 deriving DecidableEq
def Record.nums (r:Record):Bool:=decide (1≤r.coll)&&decide (r.coll≤1099511627776)&&decide (0≤r.epoch)&&decide (r.epoch≤16)&&decide (1≤r.writer)&&decide (r.writer≤16)&&decide (1≤r.count)&&decide (r.count≤1099511627776)
theorem nums_iff {r:Record}:r.nums=true↔(1≤r.coll∧r.coll≤1099511627776)∧(0≤r.epoch∧r.epoch≤16)∧(1≤r.writer∧r.writer≤16)∧1≤r.count∧r.count≤1099511627776:=by
 simp only [Record.nums,Bool.and_eq_true,decide_eq_true_eq];omega
def Record.right (r:Record):Bool:=r.nums&&decide (80≤(r.box.length:Int))&&decide ((r.box.length:Int)≤2064)
def Record.numParts (r:Record):List Any:=[Any.int r.coll,Any.int r.epoch,Any.int r.writer,Any.int r.count]
def Record.front (r:Record):List UInt8:=putB r.numParts
def Record.allParts (r:Record):List Any:=[Any.int r.coll,Any.int r.epoch,Any.int r.writer,Any.int r.count,Any.bytes r.box]
def Record.encE (r:Record):Int:=if r.right then putE r.allParts else 10
def Record.encB (r:Record):List UInt8:=if r.right then putB r.allParts else []
def record0:Record:=⟨0,0,0,0,[]⟩
def rdRec (r:Rd):Record×Rd:=
 let a:=rdNumS r 1 1099511627776
 let b:=rdNumS a 0 16
 let c:=rdNumS b 1 16
 let d:=rdNumS c 1 1099511627776
 (⟨rdNum r 1 1099511627776,rdNum a 0 16,rdNum b 1 16,rdNum c 1 1099511627776,rdTxt d 80 2064⟩,rdTxtS d 80 2064)
def recOk (b:List UInt8):Bool:=rdEnd (rdRec ⟨b,false⟩).2
def recE (b:List UInt8):Int:=if recOk b then 0 else 10
def recV (b:List UInt8):Record:=if recOk b then (rdRec ⟨b,false⟩).1 else record0
def markT (L:List Thing) (s:List UInt8) (coll who:Int) (b:List UInt8):Thing:=tCode (rightB L s uWriter who) (putB [Any.int coll,Any.bytes b])
def markB (L:List Thing) (s:List UInt8) (coll who:Int) (b:List UInt8):List UInt8:=signOf 77 (onceN (markT L s coll who b) (rightL L s uWriter who):Int)
def markL (L:List Thing) (s:List UInt8) (coll who:Int) (b:List UInt8):List Thing:=onceL (markT L s coll who b) (rightL L s uWriter who)
theorem putB_le (l:List Any):(putB l).length≤4098*l.length:=by
 unfold putB;split
 ·have:=put_le (l:=l) l.length;rwa [List.take_length] at this
 ·simp
theorem wraps_each {p:Int} {l:List WrapT} (h:wrapsGo p l=true):∀w∈l,(1≤w.who∧w.who≤16)∧w.box.length=48:=by
 induction l generalizing p with
 | nil=>intro w hw;cases hw
 | cons a r ih =>
  simp only [wrapsGo,Bool.and_eq_true,decide_eq_true_eq] at h
  intro w hw
  rcases List.mem_cons.1 hw with rfl | hw
  ·exact ⟨within_iff.1 h.1.1.1,h.1.1.2⟩
  ·exact ih h.2 w hw
theorem right_head {e:Entry} (h:e.right=true):(1≤e.kind∧e.kind≤5)∧(1≤e.writer∧e.writer≤16)∧1≤e.seq∧e.seq≤1099511627776:=by
 simp only [Entry.right,Entry.head,Bool.and_eq_true,within_iff] at h;exact ⟨h.1.1.1.1,h.1.1.1.2,h.1.1.2⟩
/-- What is right is written. -/
theorem right_put {e : Entry} (h : e.right = true) : putE e.parts = 0 := by
  obtain ⟨h1, h2, h3⟩ := right_head h
  have hb : e.body = true := by simp only [Entry.right, Bool.and_eq_true] at h; exact h.2
  have N : ∀ n : Int, 0 ≤ n ∧ n ≤ 1099511627776 → partE (.int n) = 0 := fun n hn => numE_ok hn
  have T : ∀ l : List UInt8, l.length ≤ 4096 → partE (.bytes l) = 0 := fun l hl => if_pos hl
  rw [putE_iff]
  intro a ha
  rw [Entry.parts] at ha
  rcases List.mem_append.1 ha with ha | ha
  · simp only [List.mem_cons, List.not_mem_nil, or_false] at ha
    rcases ha with rfl | rfl | rfl <;> exact N _ (by omega)
  · rw [Entry.body] at hb
    rcases (by omega : e.kind = 1 ∨ e.kind = 2 ∨ e.kind = 3 ∨ e.kind = 4 ∨ e.kind = 5) with k | k | k | k | k
    · rw [if_pos (.inl k)] at hb; simp only [Bool.and_eq_true, within_iff, decide_eq_true_eq] at hb
      rw [if_pos k] at ha; simp only [List.mem_cons, List.not_mem_nil, or_false] at ha
      rcases ha with rfl | rfl <;> exact T _ (by omega)
    · rw [if_pos (.inr k)] at hb; simp only [Bool.and_eq_true, within_iff, decide_eq_true_eq] at hb
      rw [if_neg (by omega), if_pos k] at ha; simp only [List.mem_cons, List.not_mem_nil, or_false] at ha
      rw [ha]; exact T _ (by omega)
    · rw [if_neg (by omega), if_pos k] at hb; simp only [Bool.and_eq_true, within_iff] at hb
      rw [if_neg (by omega), if_neg (by omega), if_pos k] at ha; simp only [List.mem_cons, List.not_mem_nil, or_false] at ha
      rcases ha with rfl | rfl <;> exact N _ (by omega)
    · rw [if_neg (by omega), if_neg (by omega), if_pos k] at hb; simp only [within_iff] at hb
      rw [if_neg (by omega), if_neg (by omega), if_neg (by omega), if_pos k] at ha; simp only [List.mem_cons, List.not_mem_nil, or_false] at ha
      rw [ha]; exact N _ (by omega)
    · rw [if_neg (by omega), if_neg (by omega), if_neg (by omega)] at hb; simp only [Bool.and_eq_true, within_iff, wrapsOk, decide_eq_true_eq] at hb
      rw [if_neg (by omega), if_neg (by omega), if_neg (by omega), if_neg (by omega), if_pos k] at ha
      rcases List.mem_append.1 ha with ha | ha
      · simp only [List.mem_cons, List.not_mem_nil, or_false] at ha
        rcases ha with rfl | rfl <;> exact N _ (by omega)
      · obtain ⟨l, hl, ha⟩ := List.mem_flatten.1 ha
        obtain ⟨w, hw, rfl⟩ := List.mem_map.1 hl
        obtain ⟨w1, w2⟩ := wraps_each hb.2.1 w hw
        simp only [List.mem_cons, List.not_mem_nil, or_false] at ha
        rcases ha with rfl | rfl
        · exact N _ (by omega)
        · exact T _ (by omega)
theorem encE_right {e:Entry} (h:e.right=true):e.encE=0:=by rw [Entry.encE,if_pos h,right_put h]
theorem encE_wrong {e:Entry} (h:e.right=false):e.encE=10:=by rw [Entry.encE,h];rfl
def tryB (e:Entry):List UInt8:=putB [Any.bytes e.encB,Any.bytes (List.replicate 32 0)]
def sealRE (k:List UInt8) (r:Record) (e:Entry):Int:=
 if e.encE≠0 then e.encE else if e.writer≠r.writer then 40 else if k.length≠32 then 21 else if r.nums=false then 12 else bsizeE ((tryB e).length:Int)
def plainB (L:List Thing) (s:List UInt8) (r:Record) (e:Entry):List UInt8:=putB [Any.bytes e.encB,Any.bytes (markB L s r.coll r.writer e.encB)]
def sealRT (L:List Thing) (s k:List UInt8) (r:Record) (e:Entry):Thing:=tBox k (nonceB r.writer r.count) r.front (padB (plainB L s r e))
def sealRL (L:List Thing) (s k:List UInt8) (r:Record) (e:Entry):List Thing:=if sealRE k r e=0 then markL L s r.coll r.writer e.encB++[sealRT L s k r e] else L
def sealRR (L:List Thing) (s k:List UInt8) (r:Record) (e:Entry):Record:=
 if sealRE k r e=0 then { r with box:=boxOf (((markL L s r.coll r.writer e.encB).length:Int)+1) (padB (plainB L s r e)).length } else record0
theorem markL_len (L:List Thing) (s:List UInt8) (c who:Int) (b:List UInt8):(markL L s c who b).length≤L.length+2:=
 Nat.le_trans (onceL_len _ _) (Nat.succ_le_succ (rightL_len _ _ _ _))
theorem padB_len (l:List UInt8):(padB l).length≤2048:=by
 unfold padB;split
 ·rename_i h
  obtain ⟨z,hz,_,_,h3,h4,_⟩:=bsize_facts l.length (by omega) (by omega)
  rw [bpad_length l z hz h3];omega
 ·simp
def opened (L:List Thing) (k:List UInt8) (r:Record):Option (List UInt8):=openOf L k (nonceB r.writer r.count) r.front r.box
def innerB (y:List UInt8):List UInt8:=rdTxt ⟨stripB y,false⟩ 0 4096
def innerT (y:List UInt8):List UInt8:=rdTxt (rdTxtS ⟨stripB y,false⟩ 0 4096) 0 4096
def innerOk (y:List UInt8):Bool:=rdEnd (rdTxtS (rdTxtS ⟨stripB y,false⟩ 0 4096) 0 4096)
/-- What is in a box that was opened. -/
def yOk (y:List UInt8):Bool:=decide (stripE y=0)&&innerOk y&&decide (decE (innerB y)=0)
def openYE (L:List Thing) (s:List UInt8) (r:Record) (y:List UInt8):Int:=
 if yOk y then (if (decV (innerB y)).writer=r.writer then (if innerT y=markB L s r.coll r.writer (innerB y) then 0 else 22) else 40) else 10
def openYL (L:List Thing) (s:List UInt8) (r:Record) (y:List UInt8):List Thing:=if yOk y∧(decV (innerB y)).writer=r.writer then markL L s r.coll r.writer (innerB y) else L
def openRE (L:List Thing) (s k:List UInt8) (r:Record):Int:=
 if r.right then (if k.length=32 then (match opened L k r with | some y=>openYE L s r y | none=>20) else 21) else 10
def openRL (L:List Thing) (s k:List UInt8) (r:Record):List Thing:=
 if r.right then (if k.length=32 then (match opened L k r with | some y=>openYL L s r y | none=>L) else L) else L
def openRV (L:List Thing) (s k:List UInt8) (r:Record):Entry:=
 if openRE L s k r=0 then (match opened L k r with | some y=>decV (innerB y) | none=>entry0) else entry0
theorem first3 (p1 p2 p3:Prop):¬p1∨(p1∧¬p2)∨(p1∧p2∧¬p3)∨(p1∧p2∧p3):=by
 by_cases h1:p1<;>by_cases h2:p2<;>by_cases h3:p3<;>simp [h1,h2,h3]
theorem opened_cases (L:List Thing) (k:List UInt8) (r:Record):r.right=false∨(r.right=true∧¬k.length=32)∨(r.right=true∧k.length=32∧opened L k r=none)∨(r.right=true∧k.length=32∧∃y,opened L k r=some y):=by
 cases h:r.right with
 | false=>exact .inl rfl
 | true =>
  by_cases h2:k.length=32
  ·cases h3:opened L k r with
   | none=>exact .inr (.inr (.inl ⟨rfl,h2,rfl⟩))
   | some y=>exact .inr (.inr (.inr ⟨rfl,h2,y,rfl⟩))
  ·exact .inr (.inl ⟨rfl,h2⟩)
theorem stripB_le (l:List UInt8):(stripB l).length≤l.length:=by
 unfold stripB bstrip;split<;>simp;omega
theorem txt4096 (r:Rd):(rdTxt r 0 4096).length≤4096:=by rcases rdTxt_len r 0 4096 with h | h;omega;rw [h];decide
theorem right_nums {r:Record} (h:r.right=true):r.nums=true:=by simp only [Record.right,Bool.and_eq_true] at h;exact h.1.1
theorem right_box {r:Record} (h:r.right=true):80≤r.box.length∧r.box.length≤2064:=by simp only [Record.right,Bool.and_eq_true,decide_eq_true_eq] at h;omega
theorem open_txt {L:List Thing} {k n o b y:List UInt8} (hT:∀t∈L,t.text.length≤800000000) (h:openOf L k n o b=some y):y.length≤800000000:=by
 obtain ⟨m,hm,_⟩:=open_is h;exact hT _ (List.mem_of_getElem? hm.2)
theorem yno {y:List UInt8} (h:¬stripE y=0∨¬innerOk y=true∨¬decE (innerB y)=0):yOk y=false:=by
 rw [yOk];rcases h with h | h | h<;>simp [h]
theorem yyes {y:List UInt8} (h:stripE y=0∧innerOk y=true∧decE (innerB y)=0):yOk y=true:=by rw [yOk];simp [h]
end Go.Proofs.YthddplghlljdbaaGreat
