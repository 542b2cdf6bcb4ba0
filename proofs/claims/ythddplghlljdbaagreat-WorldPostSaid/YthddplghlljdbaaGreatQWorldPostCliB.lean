import Derived.Test.YthddplghlljdbaaGreatQWorldPostSeats
import Derived.Test.YthddplghlljdbaaGreatQWorldPostFloat
set_option linter.unusedVariables false
set_option linter.unusedSimpArgs false
set_option maxRecDepth 100000
set_option maxHeartbeats 4000000
namespace Go.Proofs.YthddplghlljdbaaGreat
open Go.RowKit Go.Ecal
set_option exponentiation.threshold 2000
def cpxR:Rep (Int×Int):=⟨1,fun _ cs a=>∃x y,cs=[.complex .f64 x y]∧Fw x a.1∧Fw y a.2,fun _ h=>h,fun h=>by obtain ⟨x,y,rfl,_⟩:=h;rfl,fun h u hu=>by obtain ⟨x,y,rfl,_⟩:=h;rw [List.mem_singleton.1 hu];rfl⟩
def csR:List (Int×Int)→Int
 | []=>0
 | c::r=>c.1+csR r
def csI:List (Int×Int)→Int
 | []=>0
 | c::r=>c.2+csI r
theorem cs_app {c:Int×Int}:∀{l:List (Int×Int)},csR (l++[c])=csR l+c.1∧csI (l++[c])=csI l+c.2
 | []=>by simp [csR,csI]
 | d::l=>by have h:=cs_app (c:=c) (l:=l);rw [List.cons_append,csR,csI,h.1,h.2,csR,csI];constructor<;>omega
theorem cs_step {l:List (Int×Int)} {j:Nat} {c:Int×Int} (h:l[j]?=some c):csR (l.take (j+1))=csR (l.take j)+c.1∧csI (l.take (j+1))=csI (l.take j)+c.2:=by
 rw [List.take_add_one,h];exact cs_app
theorem cs_bd1:∀{l:List (Int×Int)},(∀c∈l,0≤c.1∧c.1≤1000∧0≤c.2∧c.2≤1000)→0≤csR l∧csR l≤1000*(l.length:Int)∧0≤csI l∧csI l≤1000*(l.length:Int)
 | [],_=>by simp [csR,csI]
 | c::l,h=>by
  have h1:=h c (by simp);have h2:=cs_bd1 (l:=l) fun d hd=>h d (by simp [hd])
  rw [csR,csI,List.length_cons];omega
theorem cs_bd {l:List (Int×Int)} (h:∀c∈l,0≤c.1∧c.1≤1000∧0≤c.2∧c.2≤1000) (i:Nat):0≤csR (l.take i)∧csR (l.take i)≤1000*(l.length:Int)∧0≤csI (l.take i)∧csI (l.take i)≤1000*(l.length:Int):=by
 have:=cs_bd1 (l:=l.take i) fun c hc=>h c (List.mem_of_mem_take hc)
 rw [List.length_take] at this;omega
theorem cs_nil {l:List (Int×Int)} (h:l.length=0):csR l=0:=by rw [List.length_eq_zero_iff.1 h];rfl
theorem cs_nilI {l:List (Int×Int)} (h:l.length=0):csI l=0:=by rw [List.length_eq_zero_iff.1 h];rfl
theorem trunc_is {x:Nat} {n:Int} (hx:Fw x n) (h:n.natAbs<9007199254740992):∃z,z=FloatKind.f64.encode ((FloatKind.f64.decode x).integral .zero)∧Fw z n:=
 ⟨_,rfl,write_is (integral_is hx).1 h⟩
def truncEntry:Array Value→Sem Value:=Extern.MathFloor.toIntegral "math.archTrunc" .zero
theorem r_trunc {P : Program} {E : Env} {w : World} {dst : Option Tmp} {ty : TypeId} {pos : String} {aft : Array Edge} {gd : Option (Nat × Bool)} {x : Operand} {f : FuncId} {fn : Func} {ats : Array TypeId} {u z : Nat} {n : Int} (hf : P.funcs[f]? = some fn) (hname : (fn.name == "runtime.NumGoroutine") = false) (hb : fn.body.isNone = true) (hn : Extern.findNext fn = none) (he : Extern.find fn = some truncEntry)
    (hx : ev E x = .float .f64 u) (hu : Fw u n) (hz : z = FloatKind.f64.encode ((FloatKind.f64.decode u).integral .zero)) :
    Gives P E w ⟨dst, .call { callee := .value (.func f), args := #[x], argTypes := ats }, ty, pos, aft, gd⟩ (.float .f64 z) w := by
  have h := run_callFunc_extern (P := P) (args := #[.float .f64 u]) (w := w) hf hname hb hn he
  have hm : (#[x] : Array Operand).map (ev E) = #[.float .f64 u] := by simp [hx]
  simp only [Gives]
  rw [run_callX, hm, h]
  obtain ⟨s, m, e, hd, _⟩ := hu
  have hd' : FloatKind.f64.decode u = .number s m e := hd
  have : (truncEntry #[.float .f64 u]).run P w = .ok (.float .f64 z) w := by
    rw [hz]
    change Sem.run P (match FloatKind.f64.decode u with
      | .nan s t => if FloatKind.f64.format.quiet t = t then pure (.float .f64 u) else do
        let kept ← choose (.extern "math.Floor,Ceil,Trunc,RoundToEven.signallingNaN kept" 2)
        pure (.float .f64 (if kept == 1 then u else FloatKind.f64.encode (.nan s (FloatKind.f64.format.quiet t))))
      | d => pure (Value.float .f64 (FloatKind.f64.encode (d.integral .zero)))) w = _
    rw [hd']; rfl
  rw [this]; rfl
theorem Trunc_c (x:Nat) (n:Int) (I:Gh) (R:List HP) (w:World) (S:Sat w I (R)) (hx:Fw x n) (hb:n.natAbs<9007199254740992):Ret Tryz.prog 116 [.float .f64 x] w fun v w'=>∃z:Nat,.float .f64 z=v∧(Fw z n)∧Sat w' I (R):=by
 refine ret_E Tryz.func116 rfl Tryz.ntmps116 (by simp) ?_
 refine g10 ?_
 obtain ⟨tz,htz,Ftz⟩:=trunc_is hx (by omega)
 refine vl (.float .f64 tz) rfl (r_trunc Tryz.func154 nm154 (by kernel_rfl) (by kernel_rfl) (by kernel_rfl) rfl hx htz) ?_
 refine g5 ?_
 refine f1 Tryz.results116 ?_
 exact ⟨tz,rfl,Ftz,S⟩
theorem WhT_c (x:Nat) (n:Int) (lo:Nat) (k:Int) (I:Gh) (R:List HP) (w:World) (S:Sat w I (R)) (hx:Fw x n) (hl:Fw lo k) (hn:-1099511627776≤k∧k≤n∧n≤1099511627776):Ret Tryz.prog 83 [.float .f64 x,.float .f64 lo] w fun v w'=>.bool true=v∧Sat w' I (R):=by
 refine ret_E Tryz.func83 rfl Tryz.ntmps83 (by simp) ?_
 refine g9 ?_
 refine vl _ rfl (dcT (r_fgeq rfl rfl hx hl) (by first | (simp;done) | (simp;omega))) ?_
 refine g2 ?_
 refine gl 8 rfl rfl rfl rfl _ rfl (dcT (r_fleq rfl rfl hx (fw_const (x:=4787326403894837248) (n:=1099511627776) (by decide +kernel) (by decide))) (by first | (simp;done) | (simp;omega))) ?_
 refine g4 ?_
 refine yG (Trunc_c x n _ _ _ S hx au) ?_
 rintro _ w0 ⟨z0,rfl,h0,S0⟩
 refine gl 12 rfl rfl rfl rfl _ rfl (dcT (r_feql rfl rfl hx (by assumption)) (by first | (simp;done) | (simp;omega))) ?_
 refine g5 ?_
 refine f1 Tryz.results83 ?_
 exact ⟨rfl,S0⟩
theorem TlT_c (x:Nat) (a:Int) (y:Nat) (b:Int) (I:Gh) (R:List HP) (w:World) (S:Sat w I (R)) (hx:Fw x a) (hy:Fw y b) (ha:0≤a∧a≤1099511627776∧0≤b∧b≤1099511627776):Ret Tryz.prog 54 [.complex .f64 x y] w fun v w'=>.bool true=v∧Sat w' I (R):=by
 refine ret_E Tryz.func54 rfl Tryz.ntmps54 (by simp) ?_
 refine g8 ?_
 refine vl (.float .f64 x) rfl (r_real rfl) ?_
 refine yR (WhT_c x a 0 (0:Int) _ _ _ S hx (fw_const (x:=0) (n:=0) (by decide +kernel) (by decide)) au) ?_
 rintro _ w0 ⟨rfl,S0⟩
 refine g2 ?_
 refine gl  6 rfl rfl rfl rfl (.float .f64 y) rfl (r_imag rfl) ?_
 refine yG (WhT_c y b 0 (0:Int) _ _ _ S0 hy (fw_const (x:=0) (n:=0) (by decide +kernel) (by decide)) au) ?_
 rintro _ w1 ⟨rfl,S1⟩
 refine g5 ?_
 refine f1 Tryz.results54 ?_
 exact ⟨rfl,S1⟩
theorem TsT_c (x:Nat) (a:Int) (y:Nat) (b:Int) (I:Gh) (R:List HP) (w:World) (S:Sat w I (R)) (hx:Fw x a) (hy:Fw y b) (ha:0≤a∧a≤1099511627776∧0≤b∧b≤1099511627776):Ret Tryz.prog 55 [.complex .f64 x y] w fun v w'=>.bool true=v∧Sat w' I (R):=by
 refine ret_E Tryz.func55 rfl Tryz.ntmps55 (by simp) ?_
 refine g8 ?_
 refine vl (.float .f64 x) rfl (r_real rfl) ?_
 refine yR (WhT_c x a 14010698440749613056 (-1099511627776:Int) _ _ _ S hx (fw_const (x:=14010698440749613056) (n:=-1099511627776) (by decide +kernel) (by decide)) au) ?_
 rintro _ w0 ⟨rfl,S0⟩
 refine g2 ?_
 refine gl  6 rfl rfl rfl rfl (.float .f64 y) rfl (r_imag rfl) ?_
 refine yG (WhT_c y b 14010698440749613056 (-1099511627776:Int) _ _ _ S0 hy (fw_const (x:=14010698440749613056) (n:=-1099511627776) (by decide +kernel) (by decide)) au) ?_
 rintro _ w1 ⟨rfl,S1⟩
 refine g5 ?_
 refine f1 Tryz.results55 ?_
 exact ⟨rfl,S1⟩
theorem TSum_c (v0:Value) (l:List (Int×Int)) (I:Gh) (R:List HP) (w:World) (S:Sat w I (R)) (Q0:RoX I v0 cpxR l) (hll:l.length≤10) (hl:∀c∈l,0≤c.1∧c.1≤1000∧0≤c.2∧c.2≤1000):Ret Tryz.prog 35 [.complex .f64 0 0,v0] w fun v w'=>∃x:Nat,∃y:Nat,.tuple #[.complex .f64 x y,.int .i64 0]=v∧(Fw x (csR l))∧(Fw y (csI l))∧Sat w' I (R):=by
 have lq0:=XRow.le (Q0.row S.le)
 refine ret_E Tryz.func35 rfl Tryz.ntmps35 (by simp) ?_
 refine g6 ?_
 refine EC_scope (fun l' m' E' w'=>(l'=0∧∃i:Nat,∃x:Nat,∃y:Nat,m'=l.length-i∧E' 8=.int .i64 (i:Int)∧E' 0=.complex .f64 x y∧E' 1=v0∧(i≤l.length)∧(Fw x (csR (l.take i)))∧(Fw y (csI (l.take i)))∧Sat w' I (R))) l.length ?_ ?_
 refine g4 ?_
 refine yR (TlT_c 0 (0:Int) 0 (0:Int) _ _ _ S (fw_const (x:=0) (n:=0) (by decide +kernel) (by decide)) (fw_const (x:=0) (n:=0) (by decide +kernel) (by decide)) au) ?_
 rintro _ w0 ⟨rfl,S0⟩
 refine vl _ rfl (dcF (r_not rfl) rfl) ?_
 refine g9 ?_
 refine vl _ rfl (r_lenX rfl (Q0.row S0.le) U91) ?_
 refine g4 ?_
 refine EC_loop (fun m' E' w'=>∃j:Nat,m'=l.length-j∧E' 14=.int .i64 (j:Int)∧E' 0=.complex .f64 0 0∧E' 1=v0∧E' 9=.complex .f64 0 0∧E' 10=.bool true∧E' 11=.bool false∧E' 12=v0∧E' 13=.int .i64 (l.length:Int)∧(j≤l.length)∧Sat w' I (R)) _ ⟨0,rfl,rfl,rfl,rfl,rfl,rfl,rfl,rfl,rfl,Nat.zero_le _,S0⟩ ?_
 rintro _ E0 w1 ⟨j,rfl,e0,e1,e2,e3,e4,e5,e6,e7,hj,S1⟩
 refine g6 ?_
 refine EC_if rfl (fun h0=>?_) (fun h0=>?_)
 refine g6 ?_
 refine vl (ptr (blkOf v0) (offOf v0+((j:Int):Int).toNat*1)) rfl (r_indexX (by exact e6) (Q0.row S1.le) (by exact e0) (by omega) as' U91 (by kernel_rfl)) ?_
 obtain ⟨a0,ha0⟩:=get_some (l:=l) (j:=((j:Int):Int).toNat) as'
 have hra:=hl a0 (List.mem_of_getElem? ha0)
 obtain ⟨cs0,hc0,he0⟩:=Q0.el ha0
 obtain ⟨x0,x1,rfl,hf0,hf1⟩:=hc0
 refine vl _ rfl (r_load0 rfl (he0 _ S1.le) U48 rfl) ?_
 refine g6 ?_
 refine yR (TsT_c x0 a0.1 x1 a0.2 _ _ _ S1 hf0 hf1 au) ?_
 rintro _ w2 ⟨rfl,S2⟩
 refine vl _ rfl (dcF (r_not rfl) rfl) ?_
 refine g7 ?_
 refine EL_int ((j:Int)+1) rfl (r_addi (by exact e0) rfl (by omega)) ?_
 intro x2 hx36
 refine g3 ?_
 refine ⟨_,?_,j+1,rfl,(Eq.trans (show _=Value.int .i64 x2 from rfl) (congrArg _ (by omega))),(by exact e1),(by exact e2),(by exact e3),(by exact e4),(by exact e5),(by exact e6),(by exact e7),by omega,S2⟩
 first | omega | (simp;omega)
 refine g15 ?_
 skip
 refine g3 ?_
 refine vl _ rfl (r_lenX rfl (Q0.row S1.le) U91) ?_
 refine g3 ?_
 refine EC_if rfl (fun h1=>?_) (fun h1=>?_)
 refine g5 ?_
 refine vl (ptr (blkOf v0) (offOf v0+(0:Int).toNat*1)) rfl (r_indexX rfl (Q0.row S1.le) rfl (by omega) as' U91 (by kernel_rfl)) ?_
 obtain ⟨a1,ha1⟩:=get_some (l:=l) (j:=(0:Int).toNat) as'
 have hra:=hl a1 (List.mem_of_getElem? ha1)
 obtain ⟨cs1,hc1,he1⟩:=Q0.el ha1
 obtain ⟨x3,x4,rfl,hf2,hf3⟩:=hc1
 refine vl _ rfl (r_load0 rfl (he1 _ S1.le) U48 rfl) ?_
 obtain ⟨z0,hz0,Fz0⟩:=fadd (fw_const (x:=0) (n:=0) (by decide +kernel) (by decide)) hf2 (by omega)
 obtain ⟨z1,hz1,Fz1⟩:=fadd (fw_const (x:=0) (n:=0) (by decide +kernel) (by decide)) hf3 (by omega)
 refine vl (.complex .f64 z0 z1) rfl (r_csum (.inl rfl) rfl rfl hz0 hz1) ?_
 refine g7 ?_
 refine vl (.int .i64 1) rfl (r_asn (by kernel_rfl) (r_add rfl rfl)) ?_
 refine g6 ?_
 refine yR (TlT_c z0 ((0:Int)+a1.1) z1 ((0:Int)+a1.2) _ _ _ S1 Fz0 Fz1 au) ?_
 rintro _ w3 ⟨rfl,S3⟩
 refine g3 ?_
 refine EC_goto ?_
 refine g2 ?_
 refine jmp_g _ ?_ ⟨rfl,(0+1),z0,z1,rfl,(Eq.trans (show _=Value.int .i64 1 from rfl) (congrArg _ (by omega))),rfl,(by exact e2),(by omega),(by rw [(cs_step (show l[0]?=_ from ha1)).1];first | exact Fz0 | (have h:=Fz0;simpa [csR] using h)),(by rw [(cs_step (show l[0]?=_ from ha1)).2];first | exact Fz1 | (have h:=Fz1;simpa [csI] using h)),S3⟩
 first | omega | (simp;omega)
 refine g11 ?_
 refine f2 Tryz.results35 ?_
 exact ⟨0,0,rfl,(by have h:=(fw_const (x:=0) (n:=0) (by decide +kernel) (by decide));first | (rw [List.take_of_length_le (by omega)] at h;exact h) | (rw [cs_nil (by omega:l.length=0)];exact h)),(by have h:=(fw_const (x:=0) (n:=0) (by decide +kernel) (by decide));first | (rw [List.take_of_length_le (by omega)] at h;exact h) | (rw [cs_nilI (by omega:l.length=0)];exact h)),S1⟩
 rintro _ _ E1 w4 (⟨rfl,i,x,y,rfl,e8,e9,e10,hi,hfx,hfy,S4⟩)
 refine ⟨_,rfl,?_⟩
 refine g5 ?_
 have hcb:=cs_bd hl i
 skip
 refine g3 ?_
 refine vl _ rfl (r_lenX rfl (Q0.row S4.le) U91) ?_
 refine g3 ?_
 refine EC_if rfl (fun h2=>?_) (fun h2=>?_)
 refine g5 ?_
 refine vl (ptr (blkOf v0) (offOf v0+((i:Int):Int).toNat*1)) rfl (r_indexX rfl (Q0.row S4.le) rfl (by omega) as' U91 (by kernel_rfl)) ?_
 obtain ⟨a2,ha2⟩:=get_some (l:=l) (j:=((i:Int):Int).toNat) as'
 have hra:=hl a2 (List.mem_of_getElem? ha2)
 obtain ⟨cs2,hc2,he2⟩:=Q0.el ha2
 obtain ⟨x5,x6,rfl,hf4,hf5⟩:=hc2
 refine vl _ rfl (r_load0 rfl (he2 _ S4.le) U48 rfl) ?_
 obtain ⟨z2,hz2,Fz2⟩:=fadd hfx hf4 (by omega)
 obtain ⟨z3,hz3,Fz3⟩:=fadd hfy hf5 (by omega)
 refine vl (.complex .f64 z2 z3) rfl (r_csum (.inl rfl) rfl rfl hz2 hz3) ?_
 refine g7 ?_
 refine EL_int ((i:Int)+1) rfl (r_addi rfl rfl (by omega)) ?_
 intro x7 hx77
 refine g6 ?_
 refine yR (TlT_c z2 ((csR (l.take i))+a2.1) z3 ((csI (l.take i))+a2.2) _ _ _ S4 Fz2 Fz3 au) ?_
 rintro _ w5 ⟨rfl,S5⟩
 refine g3 ?_
 refine EC_goto ?_
 refine g2 ?_
 refine jmp_g _ ?_ ⟨rfl,(i+1),z2,z3,rfl,(Eq.trans (show _=Value.int .i64 x7 from rfl) (congrArg _ (by omega))),rfl,(by exact e10),(by omega),(by rw [(cs_step (show l[i]?=_ from ha2)).1];first | exact Fz2 | (have h:=Fz2;simpa [csR] using h)),(by rw [(cs_step (show l[i]?=_ from ha2)).2];first | exact Fz3 | (have h:=Fz3;simpa [csI] using h)),S5⟩
 first | omega | (simp;omega)
 refine g11 ?_
 refine f2 Tryz.results35 ?_
 exact ⟨x,y,rfl,(by have h:=hfx;first | (rw [List.take_of_length_le (by omega)] at h;exact h) | (rw [cs_nil (by omega:l.length=0)];exact h)),(by have h:=hfy;first | (rw [List.take_of_length_le (by omega)] at h;exact h) | (rw [cs_nilI (by omega:l.length=0)];exact h)),S4⟩
end Go.Proofs.YthddplghlljdbaaGreat

set_option maxRecDepth 100000
set_option maxHeartbeats 4000000
namespace Go.Proofs.YthddplghlljdbaaGreat
open Go.RowKit Go.Ecal
theorem RpView_c (q:Value) (p:Value) (s:Rpl) (v0:Value) (l:List Entry) (I:Gh) (R:List HP) (w:World) (S:Sat w I (RplP q p s::R)) (Q0:RoX I v0 entR l) (hll:l.length≤1000) (hm0:s.pol.mem.length≤1000) (hd0:s.docs.length≤1000) (hpn0:(1≤s.pol.founder∧s.pol.founder≤16)∧0≤s.pol.epoch∧s.pol.epoch≤16):Ret Tryz.prog 90 [q,v0] w fun v w'=>∃cr:List Value,∃q2:Value,∃J:Gh,Gh.le I J∧.tuple #[.agg cr.toArray,q2]=v∧polR.r J cr ((viewAll l (s.pol,s.docs)).1)∧Sat w' J (DocsP q2 ((viewAll l (s.pol,s.docs)).2)::RplP q p s::R):=by
 have lq0:=XRow.le (Q0.row S.le)
 refine ret_E Tryz.func90 rfl Tryz.ntmps90 (by simp) ?_
 refine g2 ?_
 refine yN polR0 S ?_
 intro b0 w0 S0
 refine g6 ?_
 refine yR (RpPol_c _ _ _ _ _ _ S0.fr1 (by omega)) ?_
 rintro _ w1 ⟨cs0,I0,le0,rfl,h0,S1⟩
 obtain ⟨v1,rfl,r0,r1,⟨o0,H0⟩⟩:=h0
 refine g1 ?_
 refine yR (RpDocs_c _ _ _ _ _ _ S1) ?_
 rintro _ w2 ⟨q0,rfl,S2⟩
 refine yN polR0 S2 ?_
 intro b1 w3 S3
 refine yW0 S3 ?_ (h1:=ones_cons rfl (ones_cons rfl (ones_cons o0 ones_nil)))
 intro w4 S4
 refine g7 ?_
 refine vl _ rfl (r_lenX rfl (Q0.row (lT le0 S4.le)) U192) ?_
 refine g4 ?_
 refine EC_loop (fun m' E' w'=>∃j:Nat,∃P:Pol,∃D:List Doc,∃mv:Value,∃J:Gh,m'=l.length-j∧E' 18=.int .i64 (j:Int)∧E' 4=ptr b0∧E' 5=.pointer none∧E' 6=ptr b1∧E' 7=q0∧E' 16=v0∧E' 17=.int .i64 (l.length:Int)∧(j≤l.length)∧((P,D)=viewAll (l.take j) (s.pol,s.docs))∧((1≤P.founder∧P.founder≤16)∧0≤P.epoch∧P.epoch≤16)∧(P.mem.length≤s.pol.mem.length+j)∧(D.length≤s.docs.length+j)∧(mv.oneCell'=true)∧Gh.le I0 J∧RoX J mv memR P.mem∧Sat w' J (Blk b1 103 (polRC P mv)::DocsP q0 D::RplP q p s::Blk b0 103 polR0::R)) _ ⟨0,s.pol,s.docs,v1,I0,rfl,rfl,rfl,rfl,rfl,rfl,rfl,rfl,Nat.zero_le _,(by rw [List.take_zero];rfl),hpn0,by omega,by omega,o0,(Gh.le_refl _),H0,S4⟩ ?_
 rintro _ E0 w5 ⟨j,P,D,mv,I1,rfl,e0,e1,e2,e3,e4,e5,e6,hj,hx,hpn,hml,hdl,omv,le1,H1,S5⟩
 refine g6 ?_
 refine EC_if rfl (fun h2=>?_) (fun h2=>?_)
 refine g6 ?_
 refine vl (ptr (blkOf v0) (offOf v0+((j:Int):Int).toNat*9)) rfl (r_indexX (by exact e5) (Q0.row (lT (lT le0 le1) S5.le)) (by exact e0) (by omega) as' U192 (by kernel_rfl)) ?_
 obtain ⟨a0,ha0⟩:=get_some (l:=l) (j:=((j:Int):Int).toNat) as'
 obtain ⟨cs1,hc0,he0⟩:=Q0.el ha0
 obtain ⟨v2,v3,v4,rfl,r2,r3,r4,⟨o1,H2⟩,⟨o2,H3⟩,r5,r6,r7,⟨o3,H4⟩⟩:=hc0
 refine vl (.agg ((entRC a0 v2 v3 v4)).toArray) rfl (r_loadR (cs:=(entRC a0 v2 v3 v4)) rfl (he0 _ (lT (lT le0 le1) S5.le)) U36 rfl (by kernel_rfl)) ?_
 refine yN entR0 S5 ?_
 intro b2 w6 S6
 refine yW0 S6 ?_ (h1:=ones_cons rfl (ones_cons rfl (ones_cons rfl (ones_cons o1 (ones_cons o2 (ones_cons rfl (ones_cons rfl (ones_cons rfl (ones_cons o3 ones_nil)))))))))
 intro w7 S7
 refine g6 ?_
 refine yR (PApply_c (polRC P mv) P (entRC a0 v2 v3 v4) a0 _ _ _ S7 ⟨mv,rfl,ad,ad,⟨(XRow.one (H1.row S7.le)),H1⟩⟩ ⟨v2,v3,v4,rfl,ad,ad,ad,⟨o1,(H2.up (lT le0 le1))⟩,⟨o2,(H3.up (lT le0 le1))⟩,ad,ad,ad,⟨o3,(H4.up (lT le0 le1))⟩⟩) ?_
 rintro _ w8 ⟨cs2,I2,le2,rfl,h3,S8⟩
 obtain ⟨v5,rfl,r8,r9,⟨o4,H5⟩⟩:=h3
 refine g3 ?_
 refine yN polR0 S8 ?_
 intro b3 w9 S9
 refine yW0 S9 ?_ (h1:=ones_cons rfl (ones_cons rfl (ones_cons o4 ones_nil)))
 intro w10 S10
 refine g9 ?_
 refine EC_if rfl (fun h4=>?_) (fun h4=>?_)
 have hma:P.mayE a0=0:=h4
 refine g3 ?_
 refine yW2 S10 ?_ (h1:=ones_cons rfl (ones_cons rfl (ones_cons o4 ones_nil)))
 intro w11 S11
 refine g5 ?_
 refine yR (DApp_c _ _ (entRC a0 v2 v3 v4) a0 _ _ _ S11.fr3 ⟨v2,v3,v4,rfl,ad,ad,ad,⟨o1,(H2.up (lT (lT le0 le1) le2))⟩,⟨o2,(H3.up (lT (lT le0 le1) le2))⟩,ad,ad,ad,⟨o3,(H4.up (lT (lT le0 le1) le2))⟩⟩ (by omega)) ?_
 rintro _ w12 ⟨I3,le3,rfl,S12⟩
 refine g4 ?_
 refine EL_int ((j:Int)+1) rfl (r_addi (by exact e0) rfl (by omega)) ?_
 intro x0 hx125
 refine g3 ?_
 have hap:P.app0 a0=P.app a0:=if_pos hma
 refine ⟨_,?_,j+1,P.app0 a0,applyD D a0,v5,I3,rfl,(Eq.trans (show _=Value.int .i64 x0 from rfl) (congrArg _ (by omega))),(by exact e1),(by exact e2),(by exact e3),(by exact e4),(by exact e5),(by exact e6),by omega,(by rw [view_step (show l[j]?=_ from ha0),←hx,view1,if_pos hma,←hap]),(by rw [hap];exact app_num (may_0 hma).2 hpn),(by rw [hap];have:=app_mem P a0;omega),(by have:=applyD_len D a0;omega),o4,(lT (lT le1 le2) le3),(H5.up le3),S12.dr1.dr1.fr3.fr3.fr2.fr3⟩
 first | omega | (simp;omega)
 have hma:¬P.mayE a0=0:=h4
 refine g4 ?_
 refine EL_int ((j:Int)+1) rfl (r_addi (by exact e0) rfl (by omega)) ?_
 intro x1 hx132
 refine g3 ?_
 refine ⟨_,?_,j+1,P,D,mv,I2,rfl,(Eq.trans (show _=Value.int .i64 x1 from rfl) (congrArg _ (by omega))),(by exact e1),(by exact e2),(by exact e3),(by exact e4),(by exact e5),(by exact e6),by omega,(by rw [view_step (show l[j]?=_ from ha0),←hx,view1,if_neg hma]),hpn,by omega,by omega,(XRow.one (H1.row (lT le2 S10.le))),(lT le1 le2),(H1.up le2),S10.dr0.dr0⟩
 first | omega | (simp;omega)
 refine g9 ?_
 refine yW3 S5 ?_ (h1:=ones_cons rfl (ones_cons rfl (ones_cons (XRow.one (H1.row S5.le)) ones_nil)))
 intro w13 S13
 refine g4 ?_
 refine f2c Tryz.results90 ?_
 rw [List.take_of_length_le (by omega)] at hx
 have q1:D=(viewAll l (s.pol,s.docs)).2:=by rw [←hx]
 have S14:=Sat.ah1 (DocsP q0) S13 q1
 have q3:((viewAll l (s.pol,s.docs)).1)=(⟨P.founder,P.epoch,P.mem⟩:Pol):=by rw [←hx]
 have S15:=S14.dr0.dr2
 exact ⟨_,q0,I1,(lT le0 le1),rfl,(by rw [q3];exact ⟨mv,rfl,ad,ad,⟨(XRow.one (H1.row S15.le)),H1⟩⟩),S15⟩
end Go.Proofs.YthddplghlljdbaaGreat

set_option maxRecDepth 100000
set_option maxHeartbeats 4000000
namespace Go.Proofs.YthddplghlljdbaaGreat
open Go.RowKit Go.Ecal
theorem LSeq_c (b:Nat) (p:Value) (wv:Value) (rv:Value) (pv:Value) (c:Cli) (I:Gh) (R:List HP) (w:World) (S:Sat w I (Blk b 99 [p,.int .i64 c.coll,.int .i64 c.founder,.int .i64 c.who,wv,rv,pv,.int .i64 c.count,.int .i64 c.last,.bool c.alarm]::RplP rv p c.r::R)) (hcl:0≤c.last∧c.last≤1099511627776) (hrk:c.r.ok):Ret Tryz.prog 64 [ptr b] w fun v w'=>.int .i64 c.seq=v∧Sat w' I (Blk b 99 [p,.int .i64 c.coll,.int .i64 c.founder,.int .i64 c.who,wv,rv,pv,.int .i64 c.count,.int .i64 c.last,.bool c.alarm]::RplP rv p c.r::R):=by
 have hsr:=seen_rng (n:=c.who) hrk
 refine ret_E Tryz.func64 rfl Tryz.ntmps64 (by simp) ?_
 refine g6 ?_
 refine yJ 16 (fun w'=>Arr w' b 99 [p,.int .i64 c.coll,.int .i64 c.founder,.int .i64 c.who,wv,rv,pv,.int .i64 c.count,.int .i64 c.last,.bool c.alarm]) S ?_
 intro w0 S0
 refine yT 0 S0.le (S0.a0) ?_
 refine yT 1 S0.le (S0.a0) ?_
 refine yT 2 S0.le (S0.a0) ?_
 refine yT 3 S0.le (S0.a0) ?_
 refine yT 4 S0.le (S0.a0) ?_
 refine yT 5 S0.le (S0.a0) ?_
 refine yT 6 S0.le (S0.a0) ?_
 refine yT 7 S0.le (S0.a0) ?_
 refine yT 8 S0.le (S0.a0) ?_
 refine yT 9 S0.le (S0.a0) ?_
 refine yT 10 S0.le (S0.a0) ?_
 refine yT 11 S0.le (S0.a0) ?_
 refine yT 12 S0.le (S0.a0) ?_
 refine y1 13 ?_
 refine yR (RpSeen_c _ _ _ c.who _ _ _ S0.fr1) ?_
 rintro _ w1 ⟨rfl,S1⟩
 refine yn S1.le (S1.a1) ?_
 obtain ⟨x0,hx17⟩:∃z:Int,z=if c.last<seenAt c.r.seen c.who then seenAt c.r.seen c.who else c.last:=⟨_,rfl⟩
 refine jT 14 rfl (by kernel_rfl) (.int .i64 x0) rfl (fun _ hw ht=>by rw [hx17];exact r_max rfl rfl) ⟨S1.le,fun h=>S1.a1⟩ ?_
 obtain ⟨x1,hx18⟩:∃z:Int,z=x0+1:=⟨_,rfl⟩
 refine jT 15 rfl (by kernel_rfl) (.int .i64 x1) rfl (fun _ hw ht=>by rw [hx18];exact r_addi rfl rfl (by omega)) ⟨S1.le,fun h=>S1.a1⟩ ?_
 refine y1 16 ?_
 refine vA (.int .i64 x1) rfl rfl ?_
 refine ym S1.le ?_
 refine yd ?_
 refine g2 ?_
 refine f1 Tryz.results64 ?_
 exact ⟨(congrArg (Value.int .i64) (by rw [Cli.seq,hx18,hx17])),S1.fr1⟩
theorem LPend_c (b:Nat) (p:Value) (wv:Value) (rv:Value) (pv:Value) (c:Cli) (I:Gh) (R:List HP) (w:World) (S:Sat w I (Blk b 99 [p,.int .i64 c.coll,.int .i64 c.founder,.int .i64 c.who,wv,rv,pv,.int .i64 c.count,.int .i64 c.last,.bool c.alarm]::OwnX 166 waiR pv c.pend::R)) (h8:c.pend.length≤8) (hR:∀w∈c.pend,w.e.right=true):Ret Tryz.prog 91 [ptr b] w fun v w'=>∃v1:Value,∃J:Gh,Gh.le I J∧v1=v∧Sat w' J (OwnX 36 entR v1 c.pendE::Blk b 99 [p,.int .i64 c.coll,.int .i64 c.founder,.int .i64 c.who,wv,rv,pv,.int .i64 c.count,.int .i64 c.last,.bool c.alarm]::OwnX 166 waiR pv c.pend::R):=by
 refine ret_E Tryz.func91 rfl Tryz.ntmps91 (by simp) ?_
 refine g17 ?_
 refine vl _ rfl (r_lenX rfl (OwnX.row S 1 rfl (by decide)).1 U97) ?_
 refine g4 ?_
 have S0:Sat _ _ (OwnX 36 entR (.slice none 0 0) []::_):=OwnX.nil S 36 entR
 have q0:[]=c.pendE.take 0:=by simp
 have S1:=S0.ax0 q0
 refine EC_loop (fun m' E' w'=>∃j:Nat,∃ov:Value,∃J:Gh,m'=c.pend.length-j∧E' 15=.int .i64 (j:Int)∧E' 3=ov∧E' 2=.slice none 0 0∧E' 13=pv∧E' 14=.int .i64 (c.pend.length:Int)∧(j≤c.pend.length)∧Gh.le I J∧Sat w' J (OwnX 36 entR ov (c.pendE.take j)::Blk b 99 [p,.int .i64 c.coll,.int .i64 c.founder,.int .i64 c.who,wv,rv,pv,.int .i64 c.count,.int .i64 c.last,.bool c.alarm]::OwnX 166 waiR pv c.pend::R)) _ ⟨0,.slice none 0 0,I,rfl,rfl,rfl,rfl,rfl,rfl,Nat.zero_le _,(Gh.le_refl _),S1⟩ ?_
 rintro _ E0 w0 ⟨j,ov,I0,rfl,e0,e1,e2,e3,e4,hj,le0,S2⟩
 refine g6 ?_
 refine EC_if rfl (fun h0=>?_) (fun h0=>?_)
 refine g6 ?_
 refine vl (ptr (blkOf pv) (offOf pv+((j:Int):Int).toNat*10)) rfl (r_indexX (by exact e3) (OwnX.row S2 2 rfl (by decide)).1 (by exact e0) (by omega) as' U97 (by kernel_rfl)) ?_
 obtain ⟨a0,ha0⟩:=get_some (l:=c.pend) (j:=((j:Int):Int).toNat) as'
 have hrw:=(hR a0 (List.mem_of_getElem? ha0))
 have hel:=encB_len hrw
 obtain ⟨cs0,hc0,he0⟩:=(OwnX.row S2 2 rfl (by decide)).2 _ _ ha0
 obtain ⟨v0,v2,v3,v4,rfl,r0,r1,r2,⟨o0,H0⟩,⟨o1,H1⟩,r3,r4,r5,⟨o2,H2⟩,⟨o3,H3⟩⟩:=hc0
 refine vl (.agg ((waiRC a0 v0 v2 v3 v4)).toArray) rfl (r_loadR (cs:=(waiRC a0 v0 v2 v3 v4)) rfl he0 U166 rfl (by kernel_rfl)) ?_
 refine yN waiR0 S2 ?_
 intro b0 w1 S3
 refine yW0 S3 ?_ (h1:=ones_cons rfl (ones_cons rfl (ones_cons rfl (ones_cons o0 (ones_cons o1 (ones_cons rfl (ones_cons rfl (ones_cons rfl (ones_cons o2 (ones_cons o3 ones_nil))))))))))
 intro w2 S4
 refine g5 ?_
 refine vl (.agg ((entRC a0.e v0 v2 v3)).toArray) rfl (r_loadR (o:=0) (cs:=(entRC a0.e v0 v2 v3)) rfl (range_cut0 (n:=9) 0 (Arr.range (S4.a0)) rfl) U36 rfl (by kernel_rfl)) ?_
 refine yR (Encode_c (entRC a0.e v0 v2 v3) a0.e _ _ _ S4 ⟨v0,v2,v3,rfl,ad,ad,ad,⟨o0,H0⟩,⟨o1,H1⟩,ad,ad,ad,⟨o2,H2⟩⟩) ?_
 rintro _ w3 ⟨v5,I1,le1,rfl,S5⟩
 refine g10 ?_
 obtain ⟨I2,le2,S6,H4⟩:=S5.fb0
 refine yR (Decode_c _ _ _ _ _ S6 H4 (by omega)) ?_
 rintro _ w4 ⟨cs1,I3,le3,rfl,h2,S7⟩
 obtain ⟨v6,v7,v8,rfl,r6,r7,r8,⟨o4,H5⟩,⟨o5,H6⟩,r9,r10,r11,⟨o6,H7⟩⟩:=h2
 refine g3 ?_
 refine yN entR0 S7 ?_
 intro b1 w5 S8
 refine yW0 S8 ?_ (h1:=ones_cons rfl (ones_cons rfl (ones_cons rfl (ones_cons o4 (ones_cons o5 (ones_cons rfl (ones_cons rfl (ones_cons rfl (ones_cons o6 ones_nil)))))))))
 intro w6 S9
 refine g6 ?_
 refine EL_litW (z:=#[.int .i64 0,.int .i64 0,.int .i64 0,.slice none 0 0,.slice none 0 0,.int .i64 0,.int .i64 0,.int .i64 0,.slice none 0 0]) (cs:=([.int .i64 ((decV a0.e.encB).kind),.int .i64 ((decV a0.e.encB).writer),.int .i64 ((decV a0.e.encB).seq),v6,v7,.int .i64 ((decV a0.e.encB).who),.int .i64 ((decV a0.e.encB).rights),.int .i64 ((decV a0.e.encB).epoch),v8]).toArray) (sz:=9) (l:=[(0,.agg ((entRC (decV a0.e.encB) v6 v7 v8)).toArray)]) rfl U192 (by kernel_rfl) (parts1 rfl) (by kernel_rfl) rfl (by decide) ?_
 intro v9 w7 O0 B0 k0
 have S10:Sat _ _ (OwnX 36 entR v9 [(decV a0.e.encB)]::_):=OwnX.cls (xss:=[(entRC (decV a0.e.encB) v6 v7 v8)]) (.cons ⟨v6,v7,v8,rfl,ad,ad,ad,⟨o4,H5⟩,⟨o5,H6⟩,ad,ad,ad,⟨o6,H7⟩⟩ .nil) (S9.newO B0 O0)
 have oH114:=(OwnX.one S10 0 rfl (by decide))
 obtain ⟨I4,le4,S11,H8⟩:=S10.fx0 (by decide)
 refine EL_appX (z:=(.agg #[.int .i64 0,.int .i64 0,.int .i64 0,.slice none 0 0,.slice none 0 0,.int .i64 0,.int .i64 0,.int .i64 0,.slice none 0 0])) (bytes:=120) rfl U192 (by kernel_rfl) rfl (by decide) rfl rfl S11.fr2 H8 ac ac ?_
 intro v10 w8 S12
 refine g5 ?_
 refine EL_int ((j:Int)+1) rfl (r_addi (by exact e0) rfl (by omega)) ?_
 intro x0 hx116
 refine g3 ?_
 have q1:(c.pendE.take j)++[(decV a0.e.encB)]=c.pendE.take (j+1):=by rw [(dec_enc hrw).2,List.take_add_one,Cli.pendE,List.getElem?_map,(show c.pend[j]?=_ from ha0)];rfl
 have S13:=S12.ax0 q1
 refine ⟨_,?_,j+1,v10,I4,rfl,(Eq.trans (show _=Value.int .i64 x0 from rfl) (congrArg _ (by omega))),rfl,(by exact e2),(by exact e3),(by exact e4),by omega,(lT (lT (lT (lT le0 le1) le2) le3) le4),S13.dr1.dr1⟩
 first | omega | (simp;omega)
 refine g12 ?_
 refine f1 Tryz.results91 ?_
 have q2:c.pendE.take j=c.pendE:=by rw [List.take_of_length_le (by rw [Cli.pendE,List.length_map];omega)]
 have S14:=S2.ax0 q2
 exact ⟨ov,I0,le0,rfl,S14⟩
theorem LSee_c (q:Value) (p:Value) (c:Cli) (I:Gh) (R:List HP) (w:World) (S:Sat w I (CliP q p c::R)):Ret Tryz.prog 65 [q] w fun v w'=>∃cr:List Value,∃q2:Value,∃J:Gh,Gh.le I J∧.tuple #[.agg cr.toArray,q2]=v∧polR.r J cr c.view.1∧Sat w' J (DocsP q2 c.view.2::CliP q p c::R):=by
 obtain ⟨b,wv,rv,pv,rfl,cok,hrv1,Hw,S0⟩:=CliP.opn S
 have lwv:=RoB.le Hw S0.le
 have hrk:=RplP.sok S0.fr1
 have hcn:=cok.num
 have hcc:=cok.cnt
 have hcl:=cok.lst
 have hcs:=cok.sec
 have hp8:=cok.pend8
 have hsr:=seen_rng (n:=c.who) hrk
 have hrs:=cok.r
 have hpn:=hrk.num.2.2.2
 refine ret_E Tryz.func65 rfl Tryz.ntmps65 (by simp) ?_
 refine g2 ?_
 refine yN polR0 S0 ?_
 intro b0 w0 S1
 refine g4 ?_
 refine yJ 10 (fun w'=>Arr w' b 99 [p,.int .i64 c.coll,.int .i64 c.founder,.int .i64 c.who,wv,rv,pv,.int .i64 c.count,.int .i64 c.last,.bool c.alarm]) S1 ?_
 intro w1 S2
 refine yT 0 S2.le (S2.a1) ?_
 refine yT 1 S2.le (S2.a1) ?_
 refine yT 2 S2.le (S2.a1) ?_
 refine yT 3 S2.le (S2.a1) ?_
 refine yT 4 S2.le (S2.a1) ?_
 refine y1 5 ?_
 refine yR (LPend_c _ _ _ _ _ c _ _ _ S2.fr3.fr2 cok.pend8 (fun w hw=>(cok.pendR w hw).1)) ?_
 rintro _ w2 ⟨v0,I0,le0,rfl,S3⟩
 refine yn (lT le0 S3.le) (S3.a1) ?_
 refine yu le0 ?_
 refine y1 6 ?_
 have oH31:=(OwnX.one S3 0 rfl (by decide))
 obtain ⟨I1,le1,S4,H0⟩:=S3.fx0 (by decide)
 refine yR (RpView_c _ _ _ _ _ _ _ _ S4.fr3 H0 (by rw [Cli.pendE,List.length_map];omega) (by have:=hrs.mem;have:=hrs.links;omega) (by have:=hrs.docs;have:=hrs.links;omega) hpn) ?_
 rintro _ w3 ⟨cs0,q0,I2,le2,rfl,h0,S5⟩
 obtain ⟨v1,rfl,r0,r1,⟨o0,H1⟩⟩:=h0
 refine yn (lT (lT le1 le2) S5.le) (S5.a2) ?_
 refine yu (lT le1 le2) ?_
 refine yT 7 S5.le (S5.a2) ?_
 refine yT 8 S5.le (S5.a2) ?_
 refine y1 9 ?_
 refine yW4 S5 ?_ (h1:=ones_cons rfl (ones_cons rfl (ones_cons o0 ones_nil)))
 intro w4 S6
 refine yn S6.le (S6.a2) ?_
 refine y1 10 ?_
 refine vA q0 rfl rfl ?_
 refine ym S6.le ?_
 refine yd ?_
 refine g2 ?_
 refine f2c Tryz.results65 ?_
 have q1:(viewAll c.pendE (c.r.pol,c.r.docs)).2=c.view.2:=rfl
 have S7:=Sat.ah0 (DocsP q0) S6 q1
 have S8:Sat _ _ (CliP (ptr b) p c::_):=CliP.cls (c:=c) (wv:=wv) (rv:=rv) (pv:=pv) cok hrv1 (Hw.up (lT (lT le0 le1) le2)) S7.fr3.fr2.fr3
 have q3:c.view.1=(⟨((viewAll c.pendE (c.r.pol,c.r.docs)).1).founder,((viewAll c.pendE (c.r.pol,c.r.docs)).1).epoch,((viewAll c.pendE (c.r.pol,c.r.docs)).1).mem⟩:Pol):=rfl
 exact ⟨_,q0,I2,(lT (lT le0 le1) le2),rfl,(by rw [q3];exact ⟨v1,rfl,ad,ad,⟨o0,H1⟩⟩),S8.dr2.fr1⟩
end Go.Proofs.YthddplghlljdbaaGreat
